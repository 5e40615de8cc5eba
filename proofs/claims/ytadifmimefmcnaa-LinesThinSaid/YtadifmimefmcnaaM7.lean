import Derived.Test.YtadifmimefmcnaaProg
import Derived.Test.YtadifmimefmcnaaM2
import Derived.Test.YtadifmimefmcnaaM6
import Derived.Test.YtadifmimefmcnaaM4
import Derived.Test.YtadifmimefmcnaaM5
import Derived.Test.YtadifmimefmcnaaM0
set_option maxHeartbeats 4000000
set_option linter.unusedVariables false
set_option linter.unusedSimpArgs false
namespace Go.Proofs.Ytadifmimefmcnaa.Am
open Go Go.Proofs
theorem ends_0000 (x y : List (Int × Int)) (k m : Nat) (hk : 1 ≤ k ∧ k < x.length) (hm : 1 ≤ m ∧ m < y.length) (hzx : x.length ≤ 4611686018427387904) (hzy : y.length ≤ 4611686018427387904) (hx1 : k ≠ 1) (hx2 : k + 1 ≠ x.length) :
    AC Try.prog 104 2 ([.slice (some ⟨0, 0, none⟩) x.length 0, .int .i64 ((k : Nat) : Int), .slice (some ⟨1, 0, none⟩) y.length 0, .int .i64 ((m : Nat) : Int)]) [(0, ⟨(x.flatMap ptc), 29, false, 2⟩), (1, ⟨(y.flatMap ptc), 29, false, 2⟩)] (.bool (Sp.jG x k y m)) [] := by
 refine qK Try.func104 (fun w0 W pin => ?_)
 refine aw_e 3 1 2<|qD 6 7<|aw_p 13 (
  .a 2 2 <|
  .p (cB #[.tmp 13, .tmp 14] #[24, 3] [.slice (some ⟨0, 0, none⟩) x.length 0, .int .i64 ((k : Nat) : Int)] 0 [(0, ⟨(x.flatMap ptc), 29, false, 2⟩)] [] (.slice none 0 0) [0] (bE x k hk hzx hx1 hx2) (.cons (.slice _ _ _ _ _ dD) (.cons (.flatB kK) .nil)) ⟨rfl, ⟨rfl, rfl, rfl, (.flats (qA _))⟩, trivial⟩ trivial (.flatB kK)) <|
  .e 2 2) ?_
 exact qM 0 27<|q6 55<|qE<|aw_e 111 1 2<|qD 222 223<|qP 445<|q5 0<|qG<|aw_e 15 1 2<|qF<|qB [.bool false] (show (.bool false : Value) = (.bool (Sp.jG x k y m)) from (congrArg Value.bool (show false = (Sp.jG x k y m) from by (rw [Sp.jK (Sp.mY hx1 hx2) (rfl : Sp.outr y m = Sp.outr y m)]; clear hx1 hx2 hk hm ; simp only [List.any_cons, List.any_nil, Sp.eqTo, *, Bool.or_false, Bool.false_or, Bool.or_true, Bool.true_or]))))
theorem ends_1000 (x y : List (Int × Int)) (k m : Nat) (hk : 1 ≤ k ∧ k < x.length) (hm : 1 ≤ m ∧ m < y.length) (hzx : x.length ≤ 4611686018427387904) (hzy : y.length ≤ 4611686018427387904) (hx1 : k = 1) (hx2 : k + 1 ≠ x.length) (hy1 : m ≠ 1) (hy2 : m + 1 ≠ y.length) :
    AC Try.prog 104 2 ([.slice (some ⟨0, 0, none⟩) x.length 0, .int .i64 ((k : Nat) : Int), .slice (some ⟨1, 0, none⟩) y.length 0, .int .i64 ((m : Nat) : Int)]) [(0, ⟨(x.flatMap ptc), 29, false, 2⟩), (1, ⟨(y.flatMap ptc), 29, false, 2⟩)] (.bool (Sp.jG x k y m)) [] := by
 refine qK Try.func104 (fun w0 W pin => ?_)
 refine aw_e 3 1 2<|qD 6 7<|aw_p 13 (
  .a 2 2 <|
  .p (cB #[.tmp 13, .tmp 14] #[24, 3] [.slice (some ⟨0, 0, none⟩) x.length 0, .int .i64 ((k : Nat) : Int)] 1 [(0, ⟨(x.flatMap ptc), 29, false, 2⟩)] [(2, ⟨[.int .i64 ((x.getD 0 (0, 0)).1), .int .i64 ((x.getD 0 (0, 0)).2)], 29, true, 2⟩)] (.slice (some ⟨2, 0, none⟩) 1 0) [0, 2] (yT x k hk hzx hx1 hx2) (.cons (.slice _ _ _ _ _ dD) (.cons (.flatB kK) .nil)) ⟨rfl, ⟨rfl, rfl, rfl, (.flats (qA _))⟩, trivial⟩ ⟨rfl, ⟨rfl, rfl, rfl, (.flats kK)⟩, trivial⟩ (.slice _ _ _ _ _ dD)) <|
  .e 2 3) ?_
 refine qM 0 27<|q6 55<|qE<|aw_e 111 1 3<|qD 222 223<|qR 444<|qH<|qD 446 447<|qM 1 893<|aw_e 1787 4 3<|aw_p 3575 (
  .a 2 4 <|
  .p (cB #[.tmp 21, .tmp 22] #[24, 3] [.slice (some ⟨1, 0, none⟩) y.length 0, .int .i64 ((m : Nat) : Int)] 0 [(1, ⟨(y.flatMap ptc), 29, false, 2⟩)] [] (.slice none 0 0) [1] (bE y m hm hzy hy1 hy2) (.cons (.slice _ _ _ _ _ dD) (.cons (.flatB kK) .nil)) ⟨rfl, ⟨rfl, rfl, rfl, (.flats (qA _))⟩, trivial⟩ trivial (.flatB kK)) <|
  .e 2 4) ?_
 exact qM 2 7151<|q6 14303<|qE<|aw_e 28607 1 4<|qD 57214 57215<|qP 114429<|q5 2<|qG<|aw_e1 2 4<|qE<|aw_e 111 1 4<|qD 222 223<|qP 445<|q5 0<|qG<|aw_e 15 1 4<|qF<|qB [.bool false] (show (.bool false : Value) = (.bool (Sp.jG x k y m)) from (congrArg Value.bool (show false = (Sp.jG x k y m) from by (rw [Sp.jK (Sp.vN hx1 hx2) (Sp.mY hy1 hy2)]; clear hx1 hx2 hk hm hy1 hy2; simp only [List.any_cons, List.any_nil, Sp.eqTo, *, Bool.or_false, Bool.false_or, Bool.or_true, Bool.true_or]))))
theorem ends_1001 (x y : List (Int × Int)) (k m : Nat) (hk : 1 ≤ k ∧ k < x.length) (hm : 1 ≤ m ∧ m < y.length) (hzx : x.length ≤ 4611686018427387904) (hzy : y.length ≤ 4611686018427387904) (hx1 : k = 1) (hx2 : k + 1 ≠ x.length) (hy1 : m ≠ 1) (hy2 : m + 1 = y.length) :
    AC Try.prog 104 2 ([.slice (some ⟨0, 0, none⟩) x.length 0, .int .i64 ((k : Nat) : Int), .slice (some ⟨1, 0, none⟩) y.length 0, .int .i64 ((m : Nat) : Int)]) [(0, ⟨(x.flatMap ptc), 29, false, 2⟩), (1, ⟨(y.flatMap ptc), 29, false, 2⟩)] (.bool (Sp.jG x k y m)) [] := by
 refine qK Try.func104 (fun w0 W pin => ?_)
 refine aw_e 3 1 2<|qD 6 7<|aw_p 13 (
  .a 2 2 <|
  .p (cB #[.tmp 13, .tmp 14] #[24, 3] [.slice (some ⟨0, 0, none⟩) x.length 0, .int .i64 ((k : Nat) : Int)] 1 [(0, ⟨(x.flatMap ptc), 29, false, 2⟩)] [(2, ⟨[.int .i64 ((x.getD 0 (0, 0)).1), .int .i64 ((x.getD 0 (0, 0)).2)], 29, true, 2⟩)] (.slice (some ⟨2, 0, none⟩) 1 0) [0, 2] (yT x k hk hzx hx1 hx2) (.cons (.slice _ _ _ _ _ dD) (.cons (.flatB kK) .nil)) ⟨rfl, ⟨rfl, rfl, rfl, (.flats (qA _))⟩, trivial⟩ ⟨rfl, ⟨rfl, rfl, rfl, (.flats kK)⟩, trivial⟩ (.slice _ _ _ _ _ dD)) <|
  .e 2 3) ?_
 refine qM 0 27<|q6 55<|qE<|aw_e 111 1 3<|qD 222 223<|qR 444<|qH<|qD 446 447<|qM 1 893<|aw_e 1787 4 3<|aw_p 3575 (
  .a 2 4 <|
  .p (cB #[.tmp 21, .tmp 22] #[24, 3] [.slice (some ⟨1, 0, none⟩) y.length 0, .int .i64 ((m : Nat) : Int)] 1 [(1, ⟨(y.flatMap ptc), 29, false, 2⟩)] [(4, ⟨[.int .i64 ((y.getD m (0, 0)).1), .int .i64 ((y.getD m (0, 0)).2)], 29, true, 2⟩)] (.slice (some ⟨4, 0, none⟩) 1 0) [1, 4] (yU y m hm hzy hy1 hy2) (.cons (.slice _ _ _ _ _ dD) (.cons (.flatB kK) .nil)) ⟨rfl, ⟨rfl, rfl, rfl, (.flats (qA _))⟩, trivial⟩ ⟨rfl, ⟨rfl, rfl, rfl, (.flats kK)⟩, trivial⟩ (.slice _ _ _ _ _ dD)) <|
  .e 2 5) ?_
 refine qM 2 7151<|q6 14303<|qE<|aw_e 28607 1 5<|qD 57214 57215<|qR 114428<|qH<|qD 114430 114431<|qM 3 228861<|aw_e 457723 4 5<|aw_p 915447 (
  .a 2 6 <| .p (qV ((((x.getD 0 (0, 0)).1) == ((y.getD m (0, 0)).1)) && ((((x.getD 0 (0, 0)).2) == ((y.getD m (0, 0)).2)) && true)) (rfl)) <| .nil _ _) ?_
 refine qY 1830894 1830895 ((((x.getD 0 (0, 0)).1) == ((y.getD m (0, 0)).1)) && ((((x.getD 0 (0, 0)).2) == ((y.getD m (0, 0)).2)) && true)) (fun h1 => ?_) (fun h1 => ?_)
 ·exact aw_e 3661789 1 6<|qF<|qB [.bool true] (show (.bool true : Value) = (.bool (Sp.jG x k y m)) from (congrArg Value.bool (show true = (Sp.jG x k y m) from by (rw [Sp.jK (Sp.vN hx1 hx2) (Sp.vP hy1 hy2)]; clear hx1 hx2 hk hm hy1 hy2; simp only [List.any_cons, List.any_nil, Sp.eqTo, *, Bool.or_false, Bool.false_or, Bool.or_true, Bool.true_or]))))
 exact qH<|aw_e1 2 6<|qE<|aw_e 28607 1 6<|qD 57214 57215<|qP 114429<|q5 2<|qG<|aw_e1 2 6<|qE<|aw_e 111 1 6<|qD 222 223<|qP 445<|q5 0<|qG<|aw_e 15 1 6<|qF<|qB [.bool false] (show (.bool false : Value) = (.bool (Sp.jG x k y m)) from (congrArg Value.bool (show false = (Sp.jG x k y m) from by (rw [Sp.jK (Sp.vN hx1 hx2) (Sp.vP hy1 hy2)]; clear hx1 hx2 hk hm hy1 hy2; simp only [List.any_cons, List.any_nil, Sp.eqTo, *, Bool.or_false, Bool.false_or, Bool.or_true, Bool.true_or]))))
theorem ends_1010 (x y : List (Int × Int)) (k m : Nat) (hk : 1 ≤ k ∧ k < x.length) (hm : 1 ≤ m ∧ m < y.length) (hzx : x.length ≤ 4611686018427387904) (hzy : y.length ≤ 4611686018427387904) (hx1 : k = 1) (hx2 : k + 1 ≠ x.length) (hy1 : m = 1) (hy2 : m + 1 ≠ y.length) :
    AC Try.prog 104 2 ([.slice (some ⟨0, 0, none⟩) x.length 0, .int .i64 ((k : Nat) : Int), .slice (some ⟨1, 0, none⟩) y.length 0, .int .i64 ((m : Nat) : Int)]) [(0, ⟨(x.flatMap ptc), 29, false, 2⟩), (1, ⟨(y.flatMap ptc), 29, false, 2⟩)] (.bool (Sp.jG x k y m)) [] := by
 refine qK Try.func104 (fun w0 W pin => ?_)
 refine aw_e 3 1 2<|qD 6 7<|aw_p 13 (
  .a 2 2 <|
  .p (cB #[.tmp 13, .tmp 14] #[24, 3] [.slice (some ⟨0, 0, none⟩) x.length 0, .int .i64 ((k : Nat) : Int)] 1 [(0, ⟨(x.flatMap ptc), 29, false, 2⟩)] [(2, ⟨[.int .i64 ((x.getD 0 (0, 0)).1), .int .i64 ((x.getD 0 (0, 0)).2)], 29, true, 2⟩)] (.slice (some ⟨2, 0, none⟩) 1 0) [0, 2] (yT x k hk hzx hx1 hx2) (.cons (.slice _ _ _ _ _ dD) (.cons (.flatB kK) .nil)) ⟨rfl, ⟨rfl, rfl, rfl, (.flats (qA _))⟩, trivial⟩ ⟨rfl, ⟨rfl, rfl, rfl, (.flats kK)⟩, trivial⟩ (.slice _ _ _ _ _ dD)) <|
  .e 2 3) ?_
 refine qM 0 27<|q6 55<|qE<|aw_e 111 1 3<|qD 222 223<|qR 444<|qH<|qD 446 447<|qM 1 893<|aw_e 1787 4 3<|aw_p 3575 (
  .a 2 4 <|
  .p (cB #[.tmp 21, .tmp 22] #[24, 3] [.slice (some ⟨1, 0, none⟩) y.length 0, .int .i64 ((m : Nat) : Int)] 1 [(1, ⟨(y.flatMap ptc), 29, false, 2⟩)] [(4, ⟨[.int .i64 ((y.getD 0 (0, 0)).1), .int .i64 ((y.getD 0 (0, 0)).2)], 29, true, 2⟩)] (.slice (some ⟨4, 0, none⟩) 1 0) [1, 4] (yT y m hm hzy hy1 hy2) (.cons (.slice _ _ _ _ _ dD) (.cons (.flatB kK) .nil)) ⟨rfl, ⟨rfl, rfl, rfl, (.flats (qA _))⟩, trivial⟩ ⟨rfl, ⟨rfl, rfl, rfl, (.flats kK)⟩, trivial⟩ (.slice _ _ _ _ _ dD)) <|
  .e 2 5) ?_
 refine qM 2 7151<|q6 14303<|qE<|aw_e 28607 1 5<|qD 57214 57215<|qR 114428<|qH<|qD 114430 114431<|qM 3 228861<|aw_e 457723 4 5<|aw_p 915447 (
  .a 2 6 <| .p (qV ((((x.getD 0 (0, 0)).1) == ((y.getD 0 (0, 0)).1)) && ((((x.getD 0 (0, 0)).2) == ((y.getD 0 (0, 0)).2)) && true)) (rfl)) <| .nil _ _) ?_
 refine qY 1830894 1830895 ((((x.getD 0 (0, 0)).1) == ((y.getD 0 (0, 0)).1)) && ((((x.getD 0 (0, 0)).2) == ((y.getD 0 (0, 0)).2)) && true)) (fun h1 => ?_) (fun h1 => ?_)
 ·exact aw_e 3661789 1 6<|qF<|qB [.bool true] (show (.bool true : Value) = (.bool (Sp.jG x k y m)) from (congrArg Value.bool (show true = (Sp.jG x k y m) from by (rw [Sp.jK (Sp.vN hx1 hx2) (Sp.vN hy1 hy2)]; clear hx1 hx2 hk hm hy1 hy2; simp only [List.any_cons, List.any_nil, Sp.eqTo, *, Bool.or_false, Bool.false_or, Bool.or_true, Bool.true_or]))))
 exact qH<|aw_e1 2 6<|qE<|aw_e 28607 1 6<|qD 57214 57215<|qP 114429<|q5 2<|qG<|aw_e1 2 6<|qE<|aw_e 111 1 6<|qD 222 223<|qP 445<|q5 0<|qG<|aw_e 15 1 6<|qF<|qB [.bool false] (show (.bool false : Value) = (.bool (Sp.jG x k y m)) from (congrArg Value.bool (show false = (Sp.jG x k y m) from by (rw [Sp.jK (Sp.vN hx1 hx2) (Sp.vN hy1 hy2)]; clear hx1 hx2 hk hm hy1 hy2; simp only [List.any_cons, List.any_nil, Sp.eqTo, *, Bool.or_false, Bool.false_or, Bool.or_true, Bool.true_or]))))
theorem ends_1011 (x y : List (Int × Int)) (k m : Nat) (hk : 1 ≤ k ∧ k < x.length) (hm : 1 ≤ m ∧ m < y.length) (hzx : x.length ≤ 4611686018427387904) (hzy : y.length ≤ 4611686018427387904) (hx1 : k = 1) (hx2 : k + 1 ≠ x.length) (hy1 : m = 1) (hy2 : m + 1 = y.length) :
    AC Try.prog 104 2 ([.slice (some ⟨0, 0, none⟩) x.length 0, .int .i64 ((k : Nat) : Int), .slice (some ⟨1, 0, none⟩) y.length 0, .int .i64 ((m : Nat) : Int)]) [(0, ⟨(x.flatMap ptc), 29, false, 2⟩), (1, ⟨(y.flatMap ptc), 29, false, 2⟩)] (.bool (Sp.jG x k y m)) [] := by
 refine qK Try.func104 (fun w0 W pin => ?_)
 refine aw_e 3 1 2<|qD 6 7<|aw_p 13 (
  .a 2 2 <|
  .p (cB #[.tmp 13, .tmp 14] #[24, 3] [.slice (some ⟨0, 0, none⟩) x.length 0, .int .i64 ((k : Nat) : Int)] 1 [(0, ⟨(x.flatMap ptc), 29, false, 2⟩)] [(2, ⟨[.int .i64 ((x.getD 0 (0, 0)).1), .int .i64 ((x.getD 0 (0, 0)).2)], 29, true, 2⟩)] (.slice (some ⟨2, 0, none⟩) 1 0) [0, 2] (yT x k hk hzx hx1 hx2) (.cons (.slice _ _ _ _ _ dD) (.cons (.flatB kK) .nil)) ⟨rfl, ⟨rfl, rfl, rfl, (.flats (qA _))⟩, trivial⟩ ⟨rfl, ⟨rfl, rfl, rfl, (.flats kK)⟩, trivial⟩ (.slice _ _ _ _ _ dD)) <|
  .e 2 3) ?_
 refine qM 0 27<|q6 55<|qE<|aw_e 111 1 3<|qD 222 223<|qR 444<|qH<|qD 446 447<|qM 1 893<|aw_e 1787 4 3<|aw_p 3575 (
  .a 2 4 <|
  .p (cB #[.tmp 21, .tmp 22] #[24, 3] [.slice (some ⟨1, 0, none⟩) y.length 0, .int .i64 ((m : Nat) : Int)] 1 [(1, ⟨(y.flatMap ptc), 29, false, 2⟩)] [(4, ⟨[.int .i64 ((y.getD 0 (0, 0)).1), .int .i64 ((y.getD 0 (0, 0)).2), .int .i64 ((y.getD m (0, 0)).1), .int .i64 ((y.getD m (0, 0)).2)], 29, true, 2⟩)] (.slice (some ⟨4, 0, none⟩) 2 0) [1, 4] (yS y m hm hzy hy1 hy2) (.cons (.slice _ _ _ _ _ dD) (.cons (.flatB kK) .nil)) ⟨rfl, ⟨rfl, rfl, rfl, (.flats (qA _))⟩, trivial⟩ ⟨rfl, ⟨rfl, rfl, rfl, (.flats kK)⟩, trivial⟩ (.slice _ _ _ _ _ dD)) <|
  .e 2 5) ?_
 refine qM 2 7151<|q6 14303<|qE<|aw_e 28607 1 5<|qD 57214 57215<|qR 114428<|qH<|qD 114430 114431<|qM 3 228861<|aw_e 457723 4 5<|aw_p 915447 (
  .a 2 6 <| .p (qV ((((x.getD 0 (0, 0)).1) == ((y.getD 0 (0, 0)).1)) && ((((x.getD 0 (0, 0)).2) == ((y.getD 0 (0, 0)).2)) && true)) (rfl)) <| .nil _ _) ?_
 refine qY 1830894 1830895 ((((x.getD 0 (0, 0)).1) == ((y.getD 0 (0, 0)).1)) && ((((x.getD 0 (0, 0)).2) == ((y.getD 0 (0, 0)).2)) && true)) (fun h1 => ?_) (fun h1 => ?_)
 ·exact aw_e 3661789 1 6<|qF<|qB [.bool true] (show (.bool true : Value) = (.bool (Sp.jG x k y m)) from (congrArg Value.bool (show true = (Sp.jG x k y m) from by (rw [Sp.jK (Sp.vN hx1 hx2) (Sp.jZ hy1 hy2)]; clear hx1 hx2 hk hm hy1 hy2; simp only [List.any_cons, List.any_nil, Sp.eqTo, *, Bool.or_false, Bool.false_or, Bool.or_true, Bool.true_or]))))
 refine qH<|aw_e1 2 6<|qE<|aw_e 28607 1 6<|qD 57214 57215<|qR 114428<|qH<|qD 114430 114431<|qM 3 228861<|aw_e 457723 4 6<|aw_p 915447 (
  .a 2 7 <| .p (qV ((((x.getD 0 (0, 0)).1) == ((y.getD m (0, 0)).1)) && ((((x.getD 0 (0, 0)).2) == ((y.getD m (0, 0)).2)) && true)) (rfl)) <| .nil _ _) ?_
 refine qY 1830894 1830895 ((((x.getD 0 (0, 0)).1) == ((y.getD m (0, 0)).1)) && ((((x.getD 0 (0, 0)).2) == ((y.getD m (0, 0)).2)) && true)) (fun h2 => ?_) (fun h2 => ?_)
 ·exact aw_e 3661789 1 7<|qF<|qB [.bool true] (show (.bool true : Value) = (.bool (Sp.jG x k y m)) from (congrArg Value.bool (show true = (Sp.jG x k y m) from by (rw [Sp.jK (Sp.vN hx1 hx2) (Sp.jZ hy1 hy2)]; clear hx1 hx2 hk hm hy1 hy2; simp only [List.any_cons, List.any_nil, Sp.eqTo, *, Bool.or_false, Bool.false_or, Bool.or_true, Bool.true_or]))))
 exact qH<|aw_e1 2 7<|qE<|aw_e 28607 1 7<|qD 57214 57215<|qP 114429<|q5 2<|qG<|aw_e1 2 7<|qE<|aw_e 111 1 7<|qD 222 223<|qP 445<|q5 0<|qG<|aw_e 15 1 7<|qF<|qB [.bool false] (show (.bool false : Value) = (.bool (Sp.jG x k y m)) from (congrArg Value.bool (show false = (Sp.jG x k y m) from by (rw [Sp.jK (Sp.vN hx1 hx2) (Sp.jZ hy1 hy2)]; clear hx1 hx2 hk hm hy1 hy2; simp only [List.any_cons, List.any_nil, Sp.eqTo, *, Bool.or_false, Bool.false_or, Bool.or_true, Bool.true_or]))))
theorem ends_0100 (x y : List (Int × Int)) (k m : Nat) (hk : 1 ≤ k ∧ k < x.length) (hm : 1 ≤ m ∧ m < y.length) (hzx : x.length ≤ 4611686018427387904) (hzy : y.length ≤ 4611686018427387904) (hx1 : k ≠ 1) (hx2 : k + 1 = x.length) (hy1 : m ≠ 1) (hy2 : m + 1 ≠ y.length) :
    AC Try.prog 104 2 ([.slice (some ⟨0, 0, none⟩) x.length 0, .int .i64 ((k : Nat) : Int), .slice (some ⟨1, 0, none⟩) y.length 0, .int .i64 ((m : Nat) : Int)]) [(0, ⟨(x.flatMap ptc), 29, false, 2⟩), (1, ⟨(y.flatMap ptc), 29, false, 2⟩)] (.bool (Sp.jG x k y m)) [] := by
 refine qK Try.func104 (fun w0 W pin => ?_)
 refine aw_e 3 1 2<|qD 6 7<|aw_p 13 (
  .a 2 2 <|
  .p (cB #[.tmp 13, .tmp 14] #[24, 3] [.slice (some ⟨0, 0, none⟩) x.length 0, .int .i64 ((k : Nat) : Int)] 1 [(0, ⟨(x.flatMap ptc), 29, false, 2⟩)] [(2, ⟨[.int .i64 ((x.getD k (0, 0)).1), .int .i64 ((x.getD k (0, 0)).2)], 29, true, 2⟩)] (.slice (some ⟨2, 0, none⟩) 1 0) [0, 2] (yU x k hk hzx hx1 hx2) (.cons (.slice _ _ _ _ _ dD) (.cons (.flatB kK) .nil)) ⟨rfl, ⟨rfl, rfl, rfl, (.flats (qA _))⟩, trivial⟩ ⟨rfl, ⟨rfl, rfl, rfl, (.flats kK)⟩, trivial⟩ (.slice _ _ _ _ _ dD)) <|
  .e 2 3) ?_
 refine qM 0 27<|q6 55<|qE<|aw_e 111 1 3<|qD 222 223<|qR 444<|qH<|qD 446 447<|qM 1 893<|aw_e 1787 4 3<|aw_p 3575 (
  .a 2 4 <|
  .p (cB #[.tmp 21, .tmp 22] #[24, 3] [.slice (some ⟨1, 0, none⟩) y.length 0, .int .i64 ((m : Nat) : Int)] 0 [(1, ⟨(y.flatMap ptc), 29, false, 2⟩)] [] (.slice none 0 0) [1] (bE y m hm hzy hy1 hy2) (.cons (.slice _ _ _ _ _ dD) (.cons (.flatB kK) .nil)) ⟨rfl, ⟨rfl, rfl, rfl, (.flats (qA _))⟩, trivial⟩ trivial (.flatB kK)) <|
  .e 2 4) ?_
 exact qM 2 7151<|q6 14303<|qE<|aw_e 28607 1 4<|qD 57214 57215<|qP 114429<|q5 2<|qG<|aw_e1 2 4<|qE<|aw_e 111 1 4<|qD 222 223<|qP 445<|q5 0<|qG<|aw_e 15 1 4<|qF<|qB [.bool false] (show (.bool false : Value) = (.bool (Sp.jG x k y m)) from (congrArg Value.bool (show false = (Sp.jG x k y m) from by (rw [Sp.jK (Sp.vP hx1 hx2) (Sp.mY hy1 hy2)]; clear hx1 hx2 hk hm hy1 hy2; simp only [List.any_cons, List.any_nil, Sp.eqTo, *, Bool.or_false, Bool.false_or, Bool.or_true, Bool.true_or]))))
theorem ends_0101 (x y : List (Int × Int)) (k m : Nat) (hk : 1 ≤ k ∧ k < x.length) (hm : 1 ≤ m ∧ m < y.length) (hzx : x.length ≤ 4611686018427387904) (hzy : y.length ≤ 4611686018427387904) (hx1 : k ≠ 1) (hx2 : k + 1 = x.length) (hy1 : m ≠ 1) (hy2 : m + 1 = y.length) :
    AC Try.prog 104 2 ([.slice (some ⟨0, 0, none⟩) x.length 0, .int .i64 ((k : Nat) : Int), .slice (some ⟨1, 0, none⟩) y.length 0, .int .i64 ((m : Nat) : Int)]) [(0, ⟨(x.flatMap ptc), 29, false, 2⟩), (1, ⟨(y.flatMap ptc), 29, false, 2⟩)] (.bool (Sp.jG x k y m)) [] := by
 refine qK Try.func104 (fun w0 W pin => ?_)
 refine aw_e 3 1 2<|qD 6 7<|aw_p 13 (
  .a 2 2 <|
  .p (cB #[.tmp 13, .tmp 14] #[24, 3] [.slice (some ⟨0, 0, none⟩) x.length 0, .int .i64 ((k : Nat) : Int)] 1 [(0, ⟨(x.flatMap ptc), 29, false, 2⟩)] [(2, ⟨[.int .i64 ((x.getD k (0, 0)).1), .int .i64 ((x.getD k (0, 0)).2)], 29, true, 2⟩)] (.slice (some ⟨2, 0, none⟩) 1 0) [0, 2] (yU x k hk hzx hx1 hx2) (.cons (.slice _ _ _ _ _ dD) (.cons (.flatB kK) .nil)) ⟨rfl, ⟨rfl, rfl, rfl, (.flats (qA _))⟩, trivial⟩ ⟨rfl, ⟨rfl, rfl, rfl, (.flats kK)⟩, trivial⟩ (.slice _ _ _ _ _ dD)) <|
  .e 2 3) ?_
 refine qM 0 27<|q6 55<|qE<|aw_e 111 1 3<|qD 222 223<|qR 444<|qH<|qD 446 447<|qM 1 893<|aw_e 1787 4 3<|aw_p 3575 (
  .a 2 4 <|
  .p (cB #[.tmp 21, .tmp 22] #[24, 3] [.slice (some ⟨1, 0, none⟩) y.length 0, .int .i64 ((m : Nat) : Int)] 1 [(1, ⟨(y.flatMap ptc), 29, false, 2⟩)] [(4, ⟨[.int .i64 ((y.getD m (0, 0)).1), .int .i64 ((y.getD m (0, 0)).2)], 29, true, 2⟩)] (.slice (some ⟨4, 0, none⟩) 1 0) [1, 4] (yU y m hm hzy hy1 hy2) (.cons (.slice _ _ _ _ _ dD) (.cons (.flatB kK) .nil)) ⟨rfl, ⟨rfl, rfl, rfl, (.flats (qA _))⟩, trivial⟩ ⟨rfl, ⟨rfl, rfl, rfl, (.flats kK)⟩, trivial⟩ (.slice _ _ _ _ _ dD)) <|
  .e 2 5) ?_
 refine qM 2 7151<|q6 14303<|qE<|aw_e 28607 1 5<|qD 57214 57215<|qR 114428<|qH<|qD 114430 114431<|qM 3 228861<|aw_e 457723 4 5<|aw_p 915447 (
  .a 2 6 <| .p (qV ((((x.getD k (0, 0)).1) == ((y.getD m (0, 0)).1)) && ((((x.getD k (0, 0)).2) == ((y.getD m (0, 0)).2)) && true)) (rfl)) <| .nil _ _) ?_
 refine qY 1830894 1830895 ((((x.getD k (0, 0)).1) == ((y.getD m (0, 0)).1)) && ((((x.getD k (0, 0)).2) == ((y.getD m (0, 0)).2)) && true)) (fun h1 => ?_) (fun h1 => ?_)
 ·exact aw_e 3661789 1 6<|qF<|qB [.bool true] (show (.bool true : Value) = (.bool (Sp.jG x k y m)) from (congrArg Value.bool (show true = (Sp.jG x k y m) from by (rw [Sp.jK (Sp.vP hx1 hx2) (Sp.vP hy1 hy2)]; clear hx1 hx2 hk hm hy1 hy2; simp only [List.any_cons, List.any_nil, Sp.eqTo, *, Bool.or_false, Bool.false_or, Bool.or_true, Bool.true_or]))))
 exact qH<|aw_e1 2 6<|qE<|aw_e 28607 1 6<|qD 57214 57215<|qP 114429<|q5 2<|qG<|aw_e1 2 6<|qE<|aw_e 111 1 6<|qD 222 223<|qP 445<|q5 0<|qG<|aw_e 15 1 6<|qF<|qB [.bool false] (show (.bool false : Value) = (.bool (Sp.jG x k y m)) from (congrArg Value.bool (show false = (Sp.jG x k y m) from by (rw [Sp.jK (Sp.vP hx1 hx2) (Sp.vP hy1 hy2)]; clear hx1 hx2 hk hm hy1 hy2; simp only [List.any_cons, List.any_nil, Sp.eqTo, *, Bool.or_false, Bool.false_or, Bool.or_true, Bool.true_or]))))
theorem ends_0110 (x y : List (Int × Int)) (k m : Nat) (hk : 1 ≤ k ∧ k < x.length) (hm : 1 ≤ m ∧ m < y.length) (hzx : x.length ≤ 4611686018427387904) (hzy : y.length ≤ 4611686018427387904) (hx1 : k ≠ 1) (hx2 : k + 1 = x.length) (hy1 : m = 1) (hy2 : m + 1 ≠ y.length) :
    AC Try.prog 104 2 ([.slice (some ⟨0, 0, none⟩) x.length 0, .int .i64 ((k : Nat) : Int), .slice (some ⟨1, 0, none⟩) y.length 0, .int .i64 ((m : Nat) : Int)]) [(0, ⟨(x.flatMap ptc), 29, false, 2⟩), (1, ⟨(y.flatMap ptc), 29, false, 2⟩)] (.bool (Sp.jG x k y m)) [] := by
 refine qK Try.func104 (fun w0 W pin => ?_)
 refine aw_e 3 1 2<|qD 6 7<|aw_p 13 (
  .a 2 2 <|
  .p (cB #[.tmp 13, .tmp 14] #[24, 3] [.slice (some ⟨0, 0, none⟩) x.length 0, .int .i64 ((k : Nat) : Int)] 1 [(0, ⟨(x.flatMap ptc), 29, false, 2⟩)] [(2, ⟨[.int .i64 ((x.getD k (0, 0)).1), .int .i64 ((x.getD k (0, 0)).2)], 29, true, 2⟩)] (.slice (some ⟨2, 0, none⟩) 1 0) [0, 2] (yU x k hk hzx hx1 hx2) (.cons (.slice _ _ _ _ _ dD) (.cons (.flatB kK) .nil)) ⟨rfl, ⟨rfl, rfl, rfl, (.flats (qA _))⟩, trivial⟩ ⟨rfl, ⟨rfl, rfl, rfl, (.flats kK)⟩, trivial⟩ (.slice _ _ _ _ _ dD)) <|
  .e 2 3) ?_
 refine qM 0 27<|q6 55<|qE<|aw_e 111 1 3<|qD 222 223<|qR 444<|qH<|qD 446 447<|qM 1 893<|aw_e 1787 4 3<|aw_p 3575 (
  .a 2 4 <|
  .p (cB #[.tmp 21, .tmp 22] #[24, 3] [.slice (some ⟨1, 0, none⟩) y.length 0, .int .i64 ((m : Nat) : Int)] 1 [(1, ⟨(y.flatMap ptc), 29, false, 2⟩)] [(4, ⟨[.int .i64 ((y.getD 0 (0, 0)).1), .int .i64 ((y.getD 0 (0, 0)).2)], 29, true, 2⟩)] (.slice (some ⟨4, 0, none⟩) 1 0) [1, 4] (yT y m hm hzy hy1 hy2) (.cons (.slice _ _ _ _ _ dD) (.cons (.flatB kK) .nil)) ⟨rfl, ⟨rfl, rfl, rfl, (.flats (qA _))⟩, trivial⟩ ⟨rfl, ⟨rfl, rfl, rfl, (.flats kK)⟩, trivial⟩ (.slice _ _ _ _ _ dD)) <|
  .e 2 5) ?_
 refine qM 2 7151<|q6 14303<|qE<|aw_e 28607 1 5<|qD 57214 57215<|qR 114428<|qH<|qD 114430 114431<|qM 3 228861<|aw_e 457723 4 5<|aw_p 915447 (
  .a 2 6 <| .p (qV ((((x.getD k (0, 0)).1) == ((y.getD 0 (0, 0)).1)) && ((((x.getD k (0, 0)).2) == ((y.getD 0 (0, 0)).2)) && true)) (rfl)) <| .nil _ _) ?_
 refine qY 1830894 1830895 ((((x.getD k (0, 0)).1) == ((y.getD 0 (0, 0)).1)) && ((((x.getD k (0, 0)).2) == ((y.getD 0 (0, 0)).2)) && true)) (fun h1 => ?_) (fun h1 => ?_)
 ·exact aw_e 3661789 1 6<|qF<|qB [.bool true] (show (.bool true : Value) = (.bool (Sp.jG x k y m)) from (congrArg Value.bool (show true = (Sp.jG x k y m) from by (rw [Sp.jK (Sp.vP hx1 hx2) (Sp.vN hy1 hy2)]; clear hx1 hx2 hk hm hy1 hy2; simp only [List.any_cons, List.any_nil, Sp.eqTo, *, Bool.or_false, Bool.false_or, Bool.or_true, Bool.true_or]))))
 exact qH<|aw_e1 2 6<|qE<|aw_e 28607 1 6<|qD 57214 57215<|qP 114429<|q5 2<|qG<|aw_e1 2 6<|qE<|aw_e 111 1 6<|qD 222 223<|qP 445<|q5 0<|qG<|aw_e 15 1 6<|qF<|qB [.bool false] (show (.bool false : Value) = (.bool (Sp.jG x k y m)) from (congrArg Value.bool (show false = (Sp.jG x k y m) from by (rw [Sp.jK (Sp.vP hx1 hx2) (Sp.vN hy1 hy2)]; clear hx1 hx2 hk hm hy1 hy2; simp only [List.any_cons, List.any_nil, Sp.eqTo, *, Bool.or_false, Bool.false_or, Bool.or_true, Bool.true_or]))))
theorem ends_0111 (x y : List (Int × Int)) (k m : Nat) (hk : 1 ≤ k ∧ k < x.length) (hm : 1 ≤ m ∧ m < y.length) (hzx : x.length ≤ 4611686018427387904) (hzy : y.length ≤ 4611686018427387904) (hx1 : k ≠ 1) (hx2 : k + 1 = x.length) (hy1 : m = 1) (hy2 : m + 1 = y.length) :
    AC Try.prog 104 2 ([.slice (some ⟨0, 0, none⟩) x.length 0, .int .i64 ((k : Nat) : Int), .slice (some ⟨1, 0, none⟩) y.length 0, .int .i64 ((m : Nat) : Int)]) [(0, ⟨(x.flatMap ptc), 29, false, 2⟩), (1, ⟨(y.flatMap ptc), 29, false, 2⟩)] (.bool (Sp.jG x k y m)) [] := by
 refine qK Try.func104 (fun w0 W pin => ?_)
 refine aw_e 3 1 2<|qD 6 7<|aw_p 13 (
  .a 2 2 <|
  .p (cB #[.tmp 13, .tmp 14] #[24, 3] [.slice (some ⟨0, 0, none⟩) x.length 0, .int .i64 ((k : Nat) : Int)] 1 [(0, ⟨(x.flatMap ptc), 29, false, 2⟩)] [(2, ⟨[.int .i64 ((x.getD k (0, 0)).1), .int .i64 ((x.getD k (0, 0)).2)], 29, true, 2⟩)] (.slice (some ⟨2, 0, none⟩) 1 0) [0, 2] (yU x k hk hzx hx1 hx2) (.cons (.slice _ _ _ _ _ dD) (.cons (.flatB kK) .nil)) ⟨rfl, ⟨rfl, rfl, rfl, (.flats (qA _))⟩, trivial⟩ ⟨rfl, ⟨rfl, rfl, rfl, (.flats kK)⟩, trivial⟩ (.slice _ _ _ _ _ dD)) <|
  .e 2 3) ?_
 refine qM 0 27<|q6 55<|qE<|aw_e 111 1 3<|qD 222 223<|qR 444<|qH<|qD 446 447<|qM 1 893<|aw_e 1787 4 3<|aw_p 3575 (
  .a 2 4 <|
  .p (cB #[.tmp 21, .tmp 22] #[24, 3] [.slice (some ⟨1, 0, none⟩) y.length 0, .int .i64 ((m : Nat) : Int)] 1 [(1, ⟨(y.flatMap ptc), 29, false, 2⟩)] [(4, ⟨[.int .i64 ((y.getD 0 (0, 0)).1), .int .i64 ((y.getD 0 (0, 0)).2), .int .i64 ((y.getD m (0, 0)).1), .int .i64 ((y.getD m (0, 0)).2)], 29, true, 2⟩)] (.slice (some ⟨4, 0, none⟩) 2 0) [1, 4] (yS y m hm hzy hy1 hy2) (.cons (.slice _ _ _ _ _ dD) (.cons (.flatB kK) .nil)) ⟨rfl, ⟨rfl, rfl, rfl, (.flats (qA _))⟩, trivial⟩ ⟨rfl, ⟨rfl, rfl, rfl, (.flats kK)⟩, trivial⟩ (.slice _ _ _ _ _ dD)) <|
  .e 2 5) ?_
 refine qM 2 7151<|q6 14303<|qE<|aw_e 28607 1 5<|qD 57214 57215<|qR 114428<|qH<|qD 114430 114431<|qM 3 228861<|aw_e 457723 4 5<|aw_p 915447 (
  .a 2 6 <| .p (qV ((((x.getD k (0, 0)).1) == ((y.getD 0 (0, 0)).1)) && ((((x.getD k (0, 0)).2) == ((y.getD 0 (0, 0)).2)) && true)) (rfl)) <| .nil _ _) ?_
 refine qY 1830894 1830895 ((((x.getD k (0, 0)).1) == ((y.getD 0 (0, 0)).1)) && ((((x.getD k (0, 0)).2) == ((y.getD 0 (0, 0)).2)) && true)) (fun h1 => ?_) (fun h1 => ?_)
 ·exact aw_e 3661789 1 6<|qF<|qB [.bool true] (show (.bool true : Value) = (.bool (Sp.jG x k y m)) from (congrArg Value.bool (show true = (Sp.jG x k y m) from by (rw [Sp.jK (Sp.vP hx1 hx2) (Sp.jZ hy1 hy2)]; clear hx1 hx2 hk hm hy1 hy2; simp only [List.any_cons, List.any_nil, Sp.eqTo, *, Bool.or_false, Bool.false_or, Bool.or_true, Bool.true_or]))))
 refine qH<|aw_e1 2 6<|qE<|aw_e 28607 1 6<|qD 57214 57215<|qR 114428<|qH<|qD 114430 114431<|qM 3 228861<|aw_e 457723 4 6<|aw_p 915447 (
  .a 2 7 <| .p (qV ((((x.getD k (0, 0)).1) == ((y.getD m (0, 0)).1)) && ((((x.getD k (0, 0)).2) == ((y.getD m (0, 0)).2)) && true)) (rfl)) <| .nil _ _) ?_
 refine qY 1830894 1830895 ((((x.getD k (0, 0)).1) == ((y.getD m (0, 0)).1)) && ((((x.getD k (0, 0)).2) == ((y.getD m (0, 0)).2)) && true)) (fun h2 => ?_) (fun h2 => ?_)
 ·exact aw_e 3661789 1 7<|qF<|qB [.bool true] (show (.bool true : Value) = (.bool (Sp.jG x k y m)) from (congrArg Value.bool (show true = (Sp.jG x k y m) from by (rw [Sp.jK (Sp.vP hx1 hx2) (Sp.jZ hy1 hy2)]; clear hx1 hx2 hk hm hy1 hy2; simp only [List.any_cons, List.any_nil, Sp.eqTo, *, Bool.or_false, Bool.false_or, Bool.or_true, Bool.true_or]))))
 exact qH<|aw_e1 2 7<|qE<|aw_e 28607 1 7<|qD 57214 57215<|qP 114429<|q5 2<|qG<|aw_e1 2 7<|qE<|aw_e 111 1 7<|qD 222 223<|qP 445<|q5 0<|qG<|aw_e 15 1 7<|qF<|qB [.bool false] (show (.bool false : Value) = (.bool (Sp.jG x k y m)) from (congrArg Value.bool (show false = (Sp.jG x k y m) from by (rw [Sp.jK (Sp.vP hx1 hx2) (Sp.jZ hy1 hy2)]; clear hx1 hx2 hk hm hy1 hy2; simp only [List.any_cons, List.any_nil, Sp.eqTo, *, Bool.or_false, Bool.false_or, Bool.or_true, Bool.true_or]))))
theorem ends_1100 (x y : List (Int × Int)) (k m : Nat) (hk : 1 ≤ k ∧ k < x.length) (hm : 1 ≤ m ∧ m < y.length) (hzx : x.length ≤ 4611686018427387904) (hzy : y.length ≤ 4611686018427387904) (hx1 : k = 1) (hx2 : k + 1 = x.length) (hy1 : m ≠ 1) (hy2 : m + 1 ≠ y.length) :
    AC Try.prog 104 2 ([.slice (some ⟨0, 0, none⟩) x.length 0, .int .i64 ((k : Nat) : Int), .slice (some ⟨1, 0, none⟩) y.length 0, .int .i64 ((m : Nat) : Int)]) [(0, ⟨(x.flatMap ptc), 29, false, 2⟩), (1, ⟨(y.flatMap ptc), 29, false, 2⟩)] (.bool (Sp.jG x k y m)) [] := by
 refine qK Try.func104 (fun w0 W pin => ?_)
 refine aw_e 3 1 2<|qD 6 7<|aw_p 13 (
  .a 2 2 <|
  .p (cB #[.tmp 13, .tmp 14] #[24, 3] [.slice (some ⟨0, 0, none⟩) x.length 0, .int .i64 ((k : Nat) : Int)] 1 [(0, ⟨(x.flatMap ptc), 29, false, 2⟩)] [(2, ⟨[.int .i64 ((x.getD 0 (0, 0)).1), .int .i64 ((x.getD 0 (0, 0)).2), .int .i64 ((x.getD k (0, 0)).1), .int .i64 ((x.getD k (0, 0)).2)], 29, true, 2⟩)] (.slice (some ⟨2, 0, none⟩) 2 0) [0, 2] (yS x k hk hzx hx1 hx2) (.cons (.slice _ _ _ _ _ dD) (.cons (.flatB kK) .nil)) ⟨rfl, ⟨rfl, rfl, rfl, (.flats (qA _))⟩, trivial⟩ ⟨rfl, ⟨rfl, rfl, rfl, (.flats kK)⟩, trivial⟩ (.slice _ _ _ _ _ dD)) <|
  .e 2 3) ?_
 refine qM 0 27<|q6 55<|qE<|aw_e 111 1 3<|qD 222 223<|qR 444<|qH<|qD 446 447<|qM 1 893<|aw_e 1787 4 3<|aw_p 3575 (
  .a 2 4 <|
  .p (cB #[.tmp 21, .tmp 22] #[24, 3] [.slice (some ⟨1, 0, none⟩) y.length 0, .int .i64 ((m : Nat) : Int)] 0 [(1, ⟨(y.flatMap ptc), 29, false, 2⟩)] [] (.slice none 0 0) [1] (bE y m hm hzy hy1 hy2) (.cons (.slice _ _ _ _ _ dD) (.cons (.flatB kK) .nil)) ⟨rfl, ⟨rfl, rfl, rfl, (.flats (qA _))⟩, trivial⟩ trivial (.flatB kK)) <|
  .e 2 4) ?_
 refine qM 2 7151<|q6 14303<|qE<|aw_e 28607 1 4<|qD 57214 57215<|qP 114429<|q5 2<|qG<|aw_e1 2 4<|qE<|aw_e 111 1 4<|qD 222 223<|qR 444<|qH<|qD 446 447<|qM 1 893<|aw_e 1787 4 4<|aw_p 3575 (
  .a 2 5 <|
  .p (cB #[.tmp 21, .tmp 22] #[24, 3] [.slice (some ⟨1, 0, none⟩) y.length 0, .int .i64 ((m : Nat) : Int)] 0 [(1, ⟨(y.flatMap ptc), 29, false, 2⟩)] [] (.slice none 0 0) [1] (bE y m hm hzy hy1 hy2) (.cons (.slice _ _ _ _ _ dD) (.cons (.flatB kK) .nil)) ⟨rfl, ⟨rfl, rfl, rfl, (.flats (qA _))⟩, trivial⟩ trivial (.flatB kK)) <|
  .e 2 5) ?_
 exact qM 2 7151<|q6 14303<|qE<|aw_e 28607 1 5<|qD 57214 57215<|qP 114429<|q5 2<|qG<|aw_e1 2 5<|qE<|aw_e 111 1 5<|qD 222 223<|qP 445<|q5 0<|qG<|aw_e 15 1 5<|qF<|qB [.bool false] (show (.bool false : Value) = (.bool (Sp.jG x k y m)) from (congrArg Value.bool (show false = (Sp.jG x k y m) from by (rw [Sp.jK (Sp.jZ hx1 hx2) (Sp.mY hy1 hy2)]; clear hx1 hx2 hk hm hy1 hy2; simp only [List.any_cons, List.any_nil, Sp.eqTo, *, Bool.or_false, Bool.false_or, Bool.or_true, Bool.true_or]))))
theorem ends_1101 (x y : List (Int × Int)) (k m : Nat) (hk : 1 ≤ k ∧ k < x.length) (hm : 1 ≤ m ∧ m < y.length) (hzx : x.length ≤ 4611686018427387904) (hzy : y.length ≤ 4611686018427387904) (hx1 : k = 1) (hx2 : k + 1 = x.length) (hy1 : m ≠ 1) (hy2 : m + 1 = y.length) :
    AC Try.prog 104 2 ([.slice (some ⟨0, 0, none⟩) x.length 0, .int .i64 ((k : Nat) : Int), .slice (some ⟨1, 0, none⟩) y.length 0, .int .i64 ((m : Nat) : Int)]) [(0, ⟨(x.flatMap ptc), 29, false, 2⟩), (1, ⟨(y.flatMap ptc), 29, false, 2⟩)] (.bool (Sp.jG x k y m)) [] := by
 refine qK Try.func104 (fun w0 W pin => ?_)
 refine aw_e 3 1 2<|qD 6 7<|aw_p 13 (
  .a 2 2 <|
  .p (cB #[.tmp 13, .tmp 14] #[24, 3] [.slice (some ⟨0, 0, none⟩) x.length 0, .int .i64 ((k : Nat) : Int)] 1 [(0, ⟨(x.flatMap ptc), 29, false, 2⟩)] [(2, ⟨[.int .i64 ((x.getD 0 (0, 0)).1), .int .i64 ((x.getD 0 (0, 0)).2), .int .i64 ((x.getD k (0, 0)).1), .int .i64 ((x.getD k (0, 0)).2)], 29, true, 2⟩)] (.slice (some ⟨2, 0, none⟩) 2 0) [0, 2] (yS x k hk hzx hx1 hx2) (.cons (.slice _ _ _ _ _ dD) (.cons (.flatB kK) .nil)) ⟨rfl, ⟨rfl, rfl, rfl, (.flats (qA _))⟩, trivial⟩ ⟨rfl, ⟨rfl, rfl, rfl, (.flats kK)⟩, trivial⟩ (.slice _ _ _ _ _ dD)) <|
  .e 2 3) ?_
 refine qM 0 27<|q6 55<|qE<|aw_e 111 1 3<|qD 222 223<|qR 444<|qH<|qD 446 447<|qM 1 893<|aw_e 1787 4 3<|aw_p 3575 (
  .a 2 4 <|
  .p (cB #[.tmp 21, .tmp 22] #[24, 3] [.slice (some ⟨1, 0, none⟩) y.length 0, .int .i64 ((m : Nat) : Int)] 1 [(1, ⟨(y.flatMap ptc), 29, false, 2⟩)] [(4, ⟨[.int .i64 ((y.getD m (0, 0)).1), .int .i64 ((y.getD m (0, 0)).2)], 29, true, 2⟩)] (.slice (some ⟨4, 0, none⟩) 1 0) [1, 4] (yU y m hm hzy hy1 hy2) (.cons (.slice _ _ _ _ _ dD) (.cons (.flatB kK) .nil)) ⟨rfl, ⟨rfl, rfl, rfl, (.flats (qA _))⟩, trivial⟩ ⟨rfl, ⟨rfl, rfl, rfl, (.flats kK)⟩, trivial⟩ (.slice _ _ _ _ _ dD)) <|
  .e 2 5) ?_
 refine qM 2 7151<|q6 14303<|qE<|aw_e 28607 1 5<|qD 57214 57215<|qR 114428<|qH<|qD 114430 114431<|qM 3 228861<|aw_e 457723 4 5<|aw_p 915447 (
  .a 2 6 <| .p (qV ((((x.getD 0 (0, 0)).1) == ((y.getD m (0, 0)).1)) && ((((x.getD 0 (0, 0)).2) == ((y.getD m (0, 0)).2)) && true)) (rfl)) <| .nil _ _) ?_
 refine qY 1830894 1830895 ((((x.getD 0 (0, 0)).1) == ((y.getD m (0, 0)).1)) && ((((x.getD 0 (0, 0)).2) == ((y.getD m (0, 0)).2)) && true)) (fun h1 => ?_) (fun h1 => ?_)
 ·exact aw_e 3661789 1 6<|qF<|qB [.bool true] (show (.bool true : Value) = (.bool (Sp.jG x k y m)) from (congrArg Value.bool (show true = (Sp.jG x k y m) from by (rw [Sp.jK (Sp.jZ hx1 hx2) (Sp.vP hy1 hy2)]; clear hx1 hx2 hk hm hy1 hy2; simp only [List.any_cons, List.any_nil, Sp.eqTo, *, Bool.or_false, Bool.false_or, Bool.or_true, Bool.true_or]))))
 refine qH<|aw_e1 2 6<|qE<|aw_e 28607 1 6<|qD 57214 57215<|qP 114429<|q5 2<|qG<|aw_e1 2 6<|qE<|aw_e 111 1 6<|qD 222 223<|qR 444<|qH<|qD 446 447<|qM 1 893<|aw_e 1787 4 6<|aw_p 3575 (
  .a 2 7 <|
  .p (cB #[.tmp 21, .tmp 22] #[24, 3] [.slice (some ⟨1, 0, none⟩) y.length 0, .int .i64 ((m : Nat) : Int)] 1 [(1, ⟨(y.flatMap ptc), 29, false, 2⟩)] [(7, ⟨[.int .i64 ((y.getD m (0, 0)).1), .int .i64 ((y.getD m (0, 0)).2)], 29, true, 2⟩)] (.slice (some ⟨7, 0, none⟩) 1 0) [1, 7] (yU y m hm hzy hy1 hy2) (.cons (.slice _ _ _ _ _ dD) (.cons (.flatB kK) .nil)) ⟨rfl, ⟨rfl, rfl, rfl, (.flats (qA _))⟩, trivial⟩ ⟨rfl, ⟨rfl, rfl, rfl, (.flats kK)⟩, trivial⟩ (.slice _ _ _ _ _ dD)) <|
  .e 2 8) ?_
 refine qM 2 7151<|q6 14303<|qE<|aw_e 28607 1 8<|qD 57214 57215<|qR 114428<|qH<|qD 114430 114431<|qM 3 228861<|aw_e 457723 4 8<|aw_p 915447 (
  .a 2 9 <| .p (qV ((((x.getD k (0, 0)).1) == ((y.getD m (0, 0)).1)) && ((((x.getD k (0, 0)).2) == ((y.getD m (0, 0)).2)) && true)) (rfl)) <| .nil _ _) ?_
 refine qY 1830894 1830895 ((((x.getD k (0, 0)).1) == ((y.getD m (0, 0)).1)) && ((((x.getD k (0, 0)).2) == ((y.getD m (0, 0)).2)) && true)) (fun h2 => ?_) (fun h2 => ?_)
 ·exact aw_e 3661789 1 9<|qF<|qB [.bool true] (show (.bool true : Value) = (.bool (Sp.jG x k y m)) from (congrArg Value.bool (show true = (Sp.jG x k y m) from by (rw [Sp.jK (Sp.jZ hx1 hx2) (Sp.vP hy1 hy2)]; clear hx1 hx2 hk hm hy1 hy2; simp only [List.any_cons, List.any_nil, Sp.eqTo, *, Bool.or_false, Bool.false_or, Bool.or_true, Bool.true_or]))))
 exact qH<|aw_e1 2 9<|qE<|aw_e 28607 1 9<|qD 57214 57215<|qP 114429<|q5 2<|qG<|aw_e1 2 9<|qE<|aw_e 111 1 9<|qD 222 223<|qP 445<|q5 0<|qG<|aw_e 15 1 9<|qF<|qB [.bool false] (show (.bool false : Value) = (.bool (Sp.jG x k y m)) from (congrArg Value.bool (show false = (Sp.jG x k y m) from by (rw [Sp.jK (Sp.jZ hx1 hx2) (Sp.vP hy1 hy2)]; clear hx1 hx2 hk hm hy1 hy2; simp only [List.any_cons, List.any_nil, Sp.eqTo, *, Bool.or_false, Bool.false_or, Bool.or_true, Bool.true_or]))))
theorem ends_1110 (x y : List (Int × Int)) (k m : Nat) (hk : 1 ≤ k ∧ k < x.length) (hm : 1 ≤ m ∧ m < y.length) (hzx : x.length ≤ 4611686018427387904) (hzy : y.length ≤ 4611686018427387904) (hx1 : k = 1) (hx2 : k + 1 = x.length) (hy1 : m = 1) (hy2 : m + 1 ≠ y.length) :
    AC Try.prog 104 2 ([.slice (some ⟨0, 0, none⟩) x.length 0, .int .i64 ((k : Nat) : Int), .slice (some ⟨1, 0, none⟩) y.length 0, .int .i64 ((m : Nat) : Int)]) [(0, ⟨(x.flatMap ptc), 29, false, 2⟩), (1, ⟨(y.flatMap ptc), 29, false, 2⟩)] (.bool (Sp.jG x k y m)) [] := by
 refine qK Try.func104 (fun w0 W pin => ?_)
 refine aw_e 3 1 2<|qD 6 7<|aw_p 13 (
  .a 2 2 <|
  .p (cB #[.tmp 13, .tmp 14] #[24, 3] [.slice (some ⟨0, 0, none⟩) x.length 0, .int .i64 ((k : Nat) : Int)] 1 [(0, ⟨(x.flatMap ptc), 29, false, 2⟩)] [(2, ⟨[.int .i64 ((x.getD 0 (0, 0)).1), .int .i64 ((x.getD 0 (0, 0)).2), .int .i64 ((x.getD k (0, 0)).1), .int .i64 ((x.getD k (0, 0)).2)], 29, true, 2⟩)] (.slice (some ⟨2, 0, none⟩) 2 0) [0, 2] (yS x k hk hzx hx1 hx2) (.cons (.slice _ _ _ _ _ dD) (.cons (.flatB kK) .nil)) ⟨rfl, ⟨rfl, rfl, rfl, (.flats (qA _))⟩, trivial⟩ ⟨rfl, ⟨rfl, rfl, rfl, (.flats kK)⟩, trivial⟩ (.slice _ _ _ _ _ dD)) <|
  .e 2 3) ?_
 refine qM 0 27<|q6 55<|qE<|aw_e 111 1 3<|qD 222 223<|qR 444<|qH<|qD 446 447<|qM 1 893<|aw_e 1787 4 3<|aw_p 3575 (
  .a 2 4 <|
  .p (cB #[.tmp 21, .tmp 22] #[24, 3] [.slice (some ⟨1, 0, none⟩) y.length 0, .int .i64 ((m : Nat) : Int)] 1 [(1, ⟨(y.flatMap ptc), 29, false, 2⟩)] [(4, ⟨[.int .i64 ((y.getD 0 (0, 0)).1), .int .i64 ((y.getD 0 (0, 0)).2)], 29, true, 2⟩)] (.slice (some ⟨4, 0, none⟩) 1 0) [1, 4] (yT y m hm hzy hy1 hy2) (.cons (.slice _ _ _ _ _ dD) (.cons (.flatB kK) .nil)) ⟨rfl, ⟨rfl, rfl, rfl, (.flats (qA _))⟩, trivial⟩ ⟨rfl, ⟨rfl, rfl, rfl, (.flats kK)⟩, trivial⟩ (.slice _ _ _ _ _ dD)) <|
  .e 2 5) ?_
 refine qM 2 7151<|q6 14303<|qE<|aw_e 28607 1 5<|qD 57214 57215<|qR 114428<|qH<|qD 114430 114431<|qM 3 228861<|aw_e 457723 4 5<|aw_p 915447 (
  .a 2 6 <| .p (qV ((((x.getD 0 (0, 0)).1) == ((y.getD 0 (0, 0)).1)) && ((((x.getD 0 (0, 0)).2) == ((y.getD 0 (0, 0)).2)) && true)) (rfl)) <| .nil _ _) ?_
 refine qY 1830894 1830895 ((((x.getD 0 (0, 0)).1) == ((y.getD 0 (0, 0)).1)) && ((((x.getD 0 (0, 0)).2) == ((y.getD 0 (0, 0)).2)) && true)) (fun h1 => ?_) (fun h1 => ?_)
 ·exact aw_e 3661789 1 6<|qF<|qB [.bool true] (show (.bool true : Value) = (.bool (Sp.jG x k y m)) from (congrArg Value.bool (show true = (Sp.jG x k y m) from by (rw [Sp.jK (Sp.jZ hx1 hx2) (Sp.vN hy1 hy2)]; clear hx1 hx2 hk hm hy1 hy2; simp only [List.any_cons, List.any_nil, Sp.eqTo, *, Bool.or_false, Bool.false_or, Bool.or_true, Bool.true_or]))))
 refine qH<|aw_e1 2 6<|qE<|aw_e 28607 1 6<|qD 57214 57215<|qP 114429<|q5 2<|qG<|aw_e1 2 6<|qE<|aw_e 111 1 6<|qD 222 223<|qR 444<|qH<|qD 446 447<|qM 1 893<|aw_e 1787 4 6<|aw_p 3575 (
  .a 2 7 <|
  .p (cB #[.tmp 21, .tmp 22] #[24, 3] [.slice (some ⟨1, 0, none⟩) y.length 0, .int .i64 ((m : Nat) : Int)] 1 [(1, ⟨(y.flatMap ptc), 29, false, 2⟩)] [(7, ⟨[.int .i64 ((y.getD 0 (0, 0)).1), .int .i64 ((y.getD 0 (0, 0)).2)], 29, true, 2⟩)] (.slice (some ⟨7, 0, none⟩) 1 0) [1, 7] (yT y m hm hzy hy1 hy2) (.cons (.slice _ _ _ _ _ dD) (.cons (.flatB kK) .nil)) ⟨rfl, ⟨rfl, rfl, rfl, (.flats (qA _))⟩, trivial⟩ ⟨rfl, ⟨rfl, rfl, rfl, (.flats kK)⟩, trivial⟩ (.slice _ _ _ _ _ dD)) <|
  .e 2 8) ?_
 refine qM 2 7151<|q6 14303<|qE<|aw_e 28607 1 8<|qD 57214 57215<|qR 114428<|qH<|qD 114430 114431<|qM 3 228861<|aw_e 457723 4 8<|aw_p 915447 (
  .a 2 9 <| .p (qV ((((x.getD k (0, 0)).1) == ((y.getD 0 (0, 0)).1)) && ((((x.getD k (0, 0)).2) == ((y.getD 0 (0, 0)).2)) && true)) (rfl)) <| .nil _ _) ?_
 refine qY 1830894 1830895 ((((x.getD k (0, 0)).1) == ((y.getD 0 (0, 0)).1)) && ((((x.getD k (0, 0)).2) == ((y.getD 0 (0, 0)).2)) && true)) (fun h2 => ?_) (fun h2 => ?_)
 ·exact aw_e 3661789 1 9<|qF<|qB [.bool true] (show (.bool true : Value) = (.bool (Sp.jG x k y m)) from (congrArg Value.bool (show true = (Sp.jG x k y m) from by (rw [Sp.jK (Sp.jZ hx1 hx2) (Sp.vN hy1 hy2)]; clear hx1 hx2 hk hm hy1 hy2; simp only [List.any_cons, List.any_nil, Sp.eqTo, *, Bool.or_false, Bool.false_or, Bool.or_true, Bool.true_or]))))
 exact qH<|aw_e1 2 9<|qE<|aw_e 28607 1 9<|qD 57214 57215<|qP 114429<|q5 2<|qG<|aw_e1 2 9<|qE<|aw_e 111 1 9<|qD 222 223<|qP 445<|q5 0<|qG<|aw_e 15 1 9<|qF<|qB [.bool false] (show (.bool false : Value) = (.bool (Sp.jG x k y m)) from (congrArg Value.bool (show false = (Sp.jG x k y m) from by (rw [Sp.jK (Sp.jZ hx1 hx2) (Sp.vN hy1 hy2)]; clear hx1 hx2 hk hm hy1 hy2; simp only [List.any_cons, List.any_nil, Sp.eqTo, *, Bool.or_false, Bool.false_or, Bool.or_true, Bool.true_or]))))
theorem ends_1111 (x y : List (Int × Int)) (k m : Nat) (hk : 1 ≤ k ∧ k < x.length) (hm : 1 ≤ m ∧ m < y.length) (hzx : x.length ≤ 4611686018427387904) (hzy : y.length ≤ 4611686018427387904) (hx1 : k = 1) (hx2 : k + 1 = x.length) (hy1 : m = 1) (hy2 : m + 1 = y.length) :
    AC Try.prog 104 2 ([.slice (some ⟨0, 0, none⟩) x.length 0, .int .i64 ((k : Nat) : Int), .slice (some ⟨1, 0, none⟩) y.length 0, .int .i64 ((m : Nat) : Int)]) [(0, ⟨(x.flatMap ptc), 29, false, 2⟩), (1, ⟨(y.flatMap ptc), 29, false, 2⟩)] (.bool (Sp.jG x k y m)) [] := by
 refine qK Try.func104 (fun w0 W pin => ?_)
 refine aw_e 3 1 2<|qD 6 7<|aw_p 13 (
  .a 2 2 <|
  .p (cB #[.tmp 13, .tmp 14] #[24, 3] [.slice (some ⟨0, 0, none⟩) x.length 0, .int .i64 ((k : Nat) : Int)] 1 [(0, ⟨(x.flatMap ptc), 29, false, 2⟩)] [(2, ⟨[.int .i64 ((x.getD 0 (0, 0)).1), .int .i64 ((x.getD 0 (0, 0)).2), .int .i64 ((x.getD k (0, 0)).1), .int .i64 ((x.getD k (0, 0)).2)], 29, true, 2⟩)] (.slice (some ⟨2, 0, none⟩) 2 0) [0, 2] (yS x k hk hzx hx1 hx2) (.cons (.slice _ _ _ _ _ dD) (.cons (.flatB kK) .nil)) ⟨rfl, ⟨rfl, rfl, rfl, (.flats (qA _))⟩, trivial⟩ ⟨rfl, ⟨rfl, rfl, rfl, (.flats kK)⟩, trivial⟩ (.slice _ _ _ _ _ dD)) <|
  .e 2 3) ?_
 refine qM 0 27<|q6 55<|qE<|aw_e 111 1 3<|qD 222 223<|qR 444<|qH<|qD 446 447<|qM 1 893<|aw_e 1787 4 3<|aw_p 3575 (
  .a 2 4 <|
  .p (cB #[.tmp 21, .tmp 22] #[24, 3] [.slice (some ⟨1, 0, none⟩) y.length 0, .int .i64 ((m : Nat) : Int)] 1 [(1, ⟨(y.flatMap ptc), 29, false, 2⟩)] [(4, ⟨[.int .i64 ((y.getD 0 (0, 0)).1), .int .i64 ((y.getD 0 (0, 0)).2), .int .i64 ((y.getD m (0, 0)).1), .int .i64 ((y.getD m (0, 0)).2)], 29, true, 2⟩)] (.slice (some ⟨4, 0, none⟩) 2 0) [1, 4] (yS y m hm hzy hy1 hy2) (.cons (.slice _ _ _ _ _ dD) (.cons (.flatB kK) .nil)) ⟨rfl, ⟨rfl, rfl, rfl, (.flats (qA _))⟩, trivial⟩ ⟨rfl, ⟨rfl, rfl, rfl, (.flats kK)⟩, trivial⟩ (.slice _ _ _ _ _ dD)) <|
  .e 2 5) ?_
 refine qM 2 7151<|q6 14303<|qE<|aw_e 28607 1 5<|qD 57214 57215<|qR 114428<|qH<|qD 114430 114431<|qM 3 228861<|aw_e 457723 4 5<|aw_p 915447 (
  .a 2 6 <| .p (qV ((((x.getD 0 (0, 0)).1) == ((y.getD 0 (0, 0)).1)) && ((((x.getD 0 (0, 0)).2) == ((y.getD 0 (0, 0)).2)) && true)) (rfl)) <| .nil _ _) ?_
 refine qY 1830894 1830895 ((((x.getD 0 (0, 0)).1) == ((y.getD 0 (0, 0)).1)) && ((((x.getD 0 (0, 0)).2) == ((y.getD 0 (0, 0)).2)) && true)) (fun h1 => ?_) (fun h1 => ?_)
 ·exact aw_e 3661789 1 6<|qF<|qB [.bool true] (show (.bool true : Value) = (.bool (Sp.jG x k y m)) from (congrArg Value.bool (show true = (Sp.jG x k y m) from by (rw [Sp.jK (Sp.jZ hx1 hx2) (Sp.jZ hy1 hy2)]; clear hx1 hx2 hk hm hy1 hy2; simp only [List.any_cons, List.any_nil, Sp.eqTo, *, Bool.or_false, Bool.false_or, Bool.or_true, Bool.true_or]))))
 refine qH<|aw_e1 2 6<|qE<|aw_e 28607 1 6<|qD 57214 57215<|qR 114428<|qH<|qD 114430 114431<|qM 3 228861<|aw_e 457723 4 6<|aw_p 915447 (
  .a 2 7 <| .p (qV ((((x.getD 0 (0, 0)).1) == ((y.getD m (0, 0)).1)) && ((((x.getD 0 (0, 0)).2) == ((y.getD m (0, 0)).2)) && true)) (rfl)) <| .nil _ _) ?_
 refine qY 1830894 1830895 ((((x.getD 0 (0, 0)).1) == ((y.getD m (0, 0)).1)) && ((((x.getD 0 (0, 0)).2) == ((y.getD m (0, 0)).2)) && true)) (fun h2 => ?_) (fun h2 => ?_)
 ·exact aw_e 3661789 1 7<|qF<|qB [.bool true] (show (.bool true : Value) = (.bool (Sp.jG x k y m)) from (congrArg Value.bool (show true = (Sp.jG x k y m) from by (rw [Sp.jK (Sp.jZ hx1 hx2) (Sp.jZ hy1 hy2)]; clear hx1 hx2 hk hm hy1 hy2; simp only [List.any_cons, List.any_nil, Sp.eqTo, *, Bool.or_false, Bool.false_or, Bool.or_true, Bool.true_or]))))
 refine qH<|aw_e1 2 7<|qE<|aw_e 28607 1 7<|qD 57214 57215<|qP 114429<|q5 2<|qG<|aw_e1 2 7<|qE<|aw_e 111 1 7<|qD 222 223<|qR 444<|qH<|qD 446 447<|qM 1 893<|aw_e 1787 4 7<|aw_p 3575 (
  .a 2 8 <|
  .p (cB #[.tmp 21, .tmp 22] #[24, 3] [.slice (some ⟨1, 0, none⟩) y.length 0, .int .i64 ((m : Nat) : Int)] 1 [(1, ⟨(y.flatMap ptc), 29, false, 2⟩)] [(8, ⟨[.int .i64 ((y.getD 0 (0, 0)).1), .int .i64 ((y.getD 0 (0, 0)).2), .int .i64 ((y.getD m (0, 0)).1), .int .i64 ((y.getD m (0, 0)).2)], 29, true, 2⟩)] (.slice (some ⟨8, 0, none⟩) 2 0) [1, 8] (yS y m hm hzy hy1 hy2) (.cons (.slice _ _ _ _ _ dD) (.cons (.flatB kK) .nil)) ⟨rfl, ⟨rfl, rfl, rfl, (.flats (qA _))⟩, trivial⟩ ⟨rfl, ⟨rfl, rfl, rfl, (.flats kK)⟩, trivial⟩ (.slice _ _ _ _ _ dD)) <|
  .e 2 9) ?_
 refine qM 2 7151<|q6 14303<|qE<|aw_e 28607 1 9<|qD 57214 57215<|qR 114428<|qH<|qD 114430 114431<|qM 3 228861<|aw_e 457723 4 9<|aw_p 915447 (
  .a 2 10 <| .p (qV ((((x.getD k (0, 0)).1) == ((y.getD 0 (0, 0)).1)) && ((((x.getD k (0, 0)).2) == ((y.getD 0 (0, 0)).2)) && true)) (rfl)) <| .nil _ _) ?_
 refine qY 1830894 1830895 ((((x.getD k (0, 0)).1) == ((y.getD 0 (0, 0)).1)) && ((((x.getD k (0, 0)).2) == ((y.getD 0 (0, 0)).2)) && true)) (fun h3 => ?_) (fun h3 => ?_)
 ·exact aw_e 3661789 1 10<|qF<|qB [.bool true] (show (.bool true : Value) = (.bool (Sp.jG x k y m)) from (congrArg Value.bool (show true = (Sp.jG x k y m) from by (rw [Sp.jK (Sp.jZ hx1 hx2) (Sp.jZ hy1 hy2)]; clear hx1 hx2 hk hm hy1 hy2; simp only [List.any_cons, List.any_nil, Sp.eqTo, *, Bool.or_false, Bool.false_or, Bool.or_true, Bool.true_or]))))
 refine qH<|aw_e1 2 10<|qE<|aw_e 28607 1 10<|qD 57214 57215<|qR 114428<|qH<|qD 114430 114431<|qM 3 228861<|aw_e 457723 4 10<|aw_p 915447 (
  .a 2 11 <| .p (qV ((((x.getD k (0, 0)).1) == ((y.getD m (0, 0)).1)) && ((((x.getD k (0, 0)).2) == ((y.getD m (0, 0)).2)) && true)) (rfl)) <| .nil _ _) ?_
 refine qY 1830894 1830895 ((((x.getD k (0, 0)).1) == ((y.getD m (0, 0)).1)) && ((((x.getD k (0, 0)).2) == ((y.getD m (0, 0)).2)) && true)) (fun h4 => ?_) (fun h4 => ?_)
 ·exact aw_e 3661789 1 11<|qF<|qB [.bool true] (show (.bool true : Value) = (.bool (Sp.jG x k y m)) from (congrArg Value.bool (show true = (Sp.jG x k y m) from by (rw [Sp.jK (Sp.jZ hx1 hx2) (Sp.jZ hy1 hy2)]; clear hx1 hx2 hk hm hy1 hy2; simp only [List.any_cons, List.any_nil, Sp.eqTo, *, Bool.or_false, Bool.false_or, Bool.or_true, Bool.true_or]))))
 exact qH<|aw_e1 2 11<|qE<|aw_e 28607 1 11<|qD 57214 57215<|qP 114429<|q5 2<|qG<|aw_e1 2 11<|qE<|aw_e 111 1 11<|qD 222 223<|qP 445<|q5 0<|qG<|aw_e 15 1 11<|qF<|qB [.bool false] (show (.bool false : Value) = (.bool (Sp.jG x k y m)) from (congrArg Value.bool (show false = (Sp.jG x k y m) from by (rw [Sp.jK (Sp.jZ hx1 hx2) (Sp.jZ hy1 hy2)]; clear hx1 hx2 hk hm hy1 hy2; simp only [List.any_cons, List.any_nil, Sp.eqTo, *, Bool.or_false, Bool.false_or, Bool.or_true, Bool.true_or]))))
theorem nY (x y : List (Int × Int)) (k m : Nat) (hk : 1 ≤ k ∧ k < x.length) (hm : 1 ≤ m ∧ m < y.length) (hzx : x.length ≤ 4611686018427387904) (hzy : y.length ≤ 4611686018427387904) : AC Try.prog 104 2 [.slice (some ⟨0, 0, none⟩) x.length 0, .int .i64 ((k : Nat) : Int), .slice (some ⟨1, 0, none⟩) y.length 0, .int .i64 ((m : Nat) : Int)] [(0, ⟨(x.flatMap ptc), 29, false, 2⟩), (1, ⟨(y.flatMap ptc), 29, false, 2⟩)] (.bool (Sp.jG x k y m)) [] := by
  by_cases hx1 : k = 1 <;> by_cases hx2 : k + 1 = x.length
  · by_cases hy1 : m = 1 <;> by_cases hy2 : m + 1 = y.length
    · exact ends_1111 x y k m hk hm hzx hzy hx1 hx2 hy1 hy2
    · exact ends_1110 x y k m hk hm hzx hzy hx1 hx2 hy1 hy2
    · exact ends_1101 x y k m hk hm hzx hzy hx1 hx2 hy1 hy2
    · exact ends_1100 x y k m hk hm hzx hzy hx1 hx2 hy1 hy2
  · by_cases hy1 : m = 1 <;> by_cases hy2 : m + 1 = y.length
    · exact ends_1011 x y k m hk hm hzx hzy hx1 hx2 hy1 hy2
    · exact ends_1010 x y k m hk hm hzx hzy hx1 hx2 hy1 hy2
    · exact ends_1001 x y k m hk hm hzx hzy hx1 hx2 hy1 hy2
    · exact ends_1000 x y k m hk hm hzx hzy hx1 hx2 hy1 hy2
  · by_cases hy1 : m = 1 <;> by_cases hy2 : m + 1 = y.length
    · exact ends_0111 x y k m hk hm hzx hzy hx1 hx2 hy1 hy2
    · exact ends_0110 x y k m hk hm hzx hzy hx1 hx2 hy1 hy2
    · exact ends_0101 x y k m hk hm hzx hzy hx1 hx2 hy1 hy2
    · exact ends_0100 x y k m hk hm hzx hzy hx1 hx2 hy1 hy2
  · exact ends_0000 x y k m hk hm hzx hzy hx1 hx2
open Go Go.Proofs
theorem vL (px py qx qy rx ry : Int) (pxl : -1048576 ≤ px) (pxu : px ≤ 1048576) (pyl : -1048576 ≤ py) (pyu : py ≤ 1048576) (qxl : -1048576 ≤ qx) (qxu : qx ≤ 1048576) (qyl : -1048576 ≤ qy) (qyu : qy ≤ 1048576) (rxl : -1048576 ≤ rx) (rxu : rx ≤ 1048576) (ryl : -1048576 ≤ ry) (ryu : ry ≤ 1048576) (h : Sp.addb [] px py qx qy rx ry = false) :
    AC Try.prog 121 1 ([.agg #[.int .i64 px, .int .i64 py], .agg #[.int .i64 qx, .int .i64 qy], .agg #[.int .i64 rx, .int .i64 ry], .pointer (some ⟨0, 0, none⟩)]) [(0, ⟨[.slice none 0 0], 24, true, 1⟩)] (.tuple #[]) [(0, ⟨[.slice none 0 0], 24, true, 1⟩)] := by
 refine qK Try.func121 (fun w0 W pin => ?_)
 refine aw_e 3 3 1<|qD 6 7<|aw_p 13 (
  .a 3 4 <| .p (xJ _ (fB qx qy rx ry px py oO oO oO oO oO oO oO oO oO oO oO oO) false ((show (Sp.onb qx qy rx ry px py) = false from (by simpa [Sp.addb, Sp.has2] using h)))) <| .e 1 4) ?_
 exact qR 26<|qF<|qB [] kK
theorem vM (px py qx qy rx ry : Int) (pxl : -1048576 ≤ px) (pxu : px ≤ 1048576) (pyl : -1048576 ≤ py) (pyu : py ≤ 1048576) (qxl : -1048576 ≤ qx) (qxu : qx ≤ 1048576) (qyl : -1048576 ≤ qy) (qyu : qy ≤ 1048576) (rxl : -1048576 ≤ rx) (rxu : rx ≤ 1048576) (ryl : -1048576 ≤ ry) (ryu : ry ≤ 1048576) (h : Sp.addb [] px py qx qy rx ry = true) :
    AC Try.prog 121 1 ([.agg #[.int .i64 px, .int .i64 py], .agg #[.int .i64 qx, .int .i64 qy], .agg #[.int .i64 rx, .int .i64 ry], .pointer (some ⟨0, 0, none⟩)]) [(0, ⟨[.slice none 0 0], 24, true, 1⟩)] (.tuple #[]) [(0, ⟨[.slice (some ⟨1, 0, none⟩) 1 0], 24, true, 1⟩), (1, ⟨[.int .i64 px, .int .i64 py], 29, true, 2⟩)] := by
 refine qK Try.func121 (fun w0 W pin => ?_)
 refine aw_e 3 3 2<|qD 6 7<|aw_p 13 (
  .a 3 5 <| .p (xJ _ (fB qx qy rx ry px py oO oO oO oO oO oO oO oO oO oO oO oO) true ((Sp.tV h))) <| .e 1 5) ?_
 refine qP 27<|qH<|qD 14 15<|aw_e 29 3 5<|qM 0 59<|q6 119<|qE<|aw_e 239 1 5<|qD 478 479<|qP 957<|q5 0<|qG<|qW (
  .a 3 5 <| .p (jQ 1) <| .e 1 6) ?_
 exact v8 [] kK
theorem yF (x1 y1 px py qx qy rx ry : Int) (pxl : -1048576 ≤ px) (pxu : px ≤ 1048576) (pyl : -1048576 ≤ py) (pyu : py ≤ 1048576) (qxl : -1048576 ≤ qx) (qxu : qx ≤ 1048576) (qyl : -1048576 ≤ qy) (qyu : qy ≤ 1048576) (rxl : -1048576 ≤ rx) (rxu : rx ≤ 1048576) (ryl : -1048576 ≤ ry) (ryu : ry ≤ 1048576) (h : Sp.addb [(x1, y1)] px py qx qy rx ry = false) :
    AC Try.prog 121 2 ([.agg #[.int .i64 px, .int .i64 py], .agg #[.int .i64 qx, .int .i64 qy], .agg #[.int .i64 rx, .int .i64 ry], .pointer (some ⟨0, 0, none⟩)]) [(0, ⟨[.slice (some ⟨1, 0, none⟩) 1 0], 24, true, 1⟩), (1, ⟨[.int .i64 x1, .int .i64 y1], 29, true, 2⟩)] (.tuple #[]) [(0, ⟨[.slice (some ⟨1, 0, none⟩) 1 0], 24, true, 1⟩), (1, ⟨[.int .i64 x1, .int .i64 y1], 29, true, 2⟩)] := by
 refine qK Try.func121 (fun w0 W pin => ?_)
 refine aw_e 3 3 2<|qD 6 7<|aw_p 13 (
  .a 3 5 <| .p (qC (fB qx qy rx ry px py oO oO oO oO oO oO oO oO oO oO oO oO)) <| .e 1 5) ?_
 refine qY 26 27 (!(Sp.onb qx qy rx ry px py)) (fun h1 => ?_) (fun h1 => ?_)
 ·exact qF<|qB [] kK
 refine qH<|qD 14 15<|aw_e 29 3 5<|qM 0 59<|q6 119<|qE<|aw_e 239 1 5<|qD 478 479<|qR 956<|qH<|qD 958 959<|qM 1 1917<|aw_e 3835 4 5<|aw_p 7671 (
  .a 2 6 <|
  .p (qV true ((show ((x1 == px) && ((y1 == py) && true)) = true from (by have q := h; simp only [Sp.addb, Sp.has2, List.any_cons, List.any_nil, (show Sp.onb qx qy rx ry px py = true from (by simpa using h1)), Bool.or_false, Bool.false_or, Bool.true_and, Bool.not_eq_false'] at q; exact q)))) <| .nil _ _) ?_
 exact qR 15342<|qF<|qB [] kK
theorem yG (x1 y1 px py qx qy rx ry : Int) (pxl : -1048576 ≤ px) (pxu : px ≤ 1048576) (pyl : -1048576 ≤ py) (pyu : py ≤ 1048576) (qxl : -1048576 ≤ qx) (qxu : qx ≤ 1048576) (qyl : -1048576 ≤ qy) (qyu : qy ≤ 1048576) (rxl : -1048576 ≤ rx) (rxu : rx ≤ 1048576) (ryl : -1048576 ≤ ry) (ryu : ry ≤ 1048576) (h : Sp.addb [(x1, y1)] px py qx qy rx ry = true) :
    AC Try.prog 121 2 ([.agg #[.int .i64 px, .int .i64 py], .agg #[.int .i64 qx, .int .i64 qy], .agg #[.int .i64 rx, .int .i64 ry], .pointer (some ⟨0, 0, none⟩)]) [(0, ⟨[.slice (some ⟨1, 0, none⟩) 1 0], 24, true, 1⟩), (1, ⟨[.int .i64 x1, .int .i64 y1], 29, true, 2⟩)] (.tuple #[]) [(0, ⟨[.slice (some ⟨2, 0, none⟩) 2 0], 24, true, 1⟩), (2, ⟨[.int .i64 x1, .int .i64 y1, .int .i64 px, .int .i64 py], 29, true, 2⟩)] := by
 refine qK Try.func121 (fun w0 W pin => ?_)
 refine aw_e 3 3 3<|qD 6 7<|aw_p 13 (
  .a 3 6 <| .p (xJ _ (fB qx qy rx ry px py oO oO oO oO oO oO oO oO oO oO oO oO) true ((Sp.tV h))) <| .e 1 6) ?_
 refine qP 27<|qH<|qD 14 15<|aw_e 29 3 6<|qM 0 59<|q6 119<|qE<|aw_e 239 1 6<|qD 478 479<|qR 956<|qH<|qD 958 959<|qM 1 1917<|aw_e 3835 4 6<|aw_p 7671 (
  .a 2 7 <| .p (qV false ((show ((x1 == px) && ((y1 == py) && true)) = false from (Sp.wC (l := [(x1, y1)]) (x := x1) (y := y1) (by simp) (Sp.fK h))))) <| .nil _ _) ?_
 refine qP 15343<|qH<|aw_e1 2 7<|qE<|aw_e 239 1 7<|qD 478 479<|qP 957<|q5 0<|qG<|qW (
  .a 3 7 <| .p (jQ 2) <| .e 1 8) ?_
 exact v8 [] kK
theorem cF (x1 y1 x2 y2 px py qx qy rx ry : Int) (pxl : -1048576 ≤ px) (pxu : px ≤ 1048576) (pyl : -1048576 ≤ py) (pyu : py ≤ 1048576) (qxl : -1048576 ≤ qx) (qxu : qx ≤ 1048576) (qyl : -1048576 ≤ qy) (qyu : qy ≤ 1048576) (rxl : -1048576 ≤ rx) (rxu : rx ≤ 1048576) (ryl : -1048576 ≤ ry) (ryu : ry ≤ 1048576) (h : Sp.addb [(x1, y1), (x2, y2)] px py qx qy rx ry = false) :
    AC Try.prog 121 2 ([.agg #[.int .i64 px, .int .i64 py], .agg #[.int .i64 qx, .int .i64 qy], .agg #[.int .i64 rx, .int .i64 ry], .pointer (some ⟨0, 0, none⟩)]) [(0, ⟨[.slice (some ⟨1, 0, none⟩) 2 0], 24, true, 1⟩), (1, ⟨[.int .i64 x1, .int .i64 y1, .int .i64 x2, .int .i64 y2], 29, true, 2⟩)] (.tuple #[]) [(0, ⟨[.slice (some ⟨1, 0, none⟩) 2 0], 24, true, 1⟩), (1, ⟨[.int .i64 x1, .int .i64 y1, .int .i64 x2, .int .i64 y2], 29, true, 2⟩)] := by
 refine qK Try.func121 (fun w0 W pin => ?_)
 refine aw_e 3 3 2<|qD 6 7<|aw_p 13 (
  .a 3 5 <| .p (qC (fB qx qy rx ry px py oO oO oO oO oO oO oO oO oO oO oO oO)) <| .e 1 5) ?_
 refine qY 26 27 (!(Sp.onb qx qy rx ry px py)) (fun h1 => ?_) (fun h1 => ?_)
 ·exact qF<|qB [] kK
 refine qH<|qD 14 15<|aw_e 29 3 5<|qM 0 59<|q6 119<|qE<|aw_e 239 1 5<|qD 478 479<|qR 956<|qH<|qD 958 959<|qM 1 1917<|aw_e 3835 4 5<|aw_p 7671 (
  .a 2 6 <| .p (qV ((x1 == px) && ((y1 == py) && true)) (rfl)) <| .nil _ _) ?_
 refine qY 15342 15343 ((x1 == px) && ((y1 == py) && true)) (fun h2 => ?_) (fun h2 => ?_)
 ·have h2p : ((x1 = px ∧ y1 = py)) := pB h2
  exact qF<|qB [] kK
 have h2p : ¬ ((x1 = px ∧ y1 = py)) := pB h2
 refine qH<|aw_e1 2 6<|qE<|aw_e 239 1 6<|qD 478 479<|qR 956<|qH<|qD 958 959<|qM 1 1917<|aw_e 3835 4 6<|aw_p 7671 (
  .a 2 7 <|
  .p (qV true ((show ((x2 == px) && ((y2 == py) && true)) = true from (by have q := h; simp only [Sp.addb, Sp.has2, List.any_cons, List.any_nil, (show Sp.onb qx qy rx ry px py = true from (by simpa using h1)), h2, Bool.or_false, Bool.false_or, Bool.true_and, Bool.not_eq_false'] at q; exact q)))) <| .nil _ _) ?_
 exact qR 15342<|qF<|qB [] kK
theorem cG (x1 y1 x2 y2 px py qx qy rx ry : Int) (pxl : -1048576 ≤ px) (pxu : px ≤ 1048576) (pyl : -1048576 ≤ py) (pyu : py ≤ 1048576) (qxl : -1048576 ≤ qx) (qxu : qx ≤ 1048576) (qyl : -1048576 ≤ qy) (qyu : qy ≤ 1048576) (rxl : -1048576 ≤ rx) (rxu : rx ≤ 1048576) (ryl : -1048576 ≤ ry) (ryu : ry ≤ 1048576) (h : Sp.addb [(x1, y1), (x2, y2)] px py qx qy rx ry = true) :
    AC Try.prog 121 2 ([.agg #[.int .i64 px, .int .i64 py], .agg #[.int .i64 qx, .int .i64 qy], .agg #[.int .i64 rx, .int .i64 ry], .pointer (some ⟨0, 0, none⟩)]) [(0, ⟨[.slice (some ⟨1, 0, none⟩) 2 0], 24, true, 1⟩), (1, ⟨[.int .i64 x1, .int .i64 y1, .int .i64 x2, .int .i64 y2], 29, true, 2⟩)] (.tuple #[]) [(0, ⟨[.slice (some ⟨2, 0, none⟩) 3 0], 24, true, 1⟩), (2, ⟨[.int .i64 x1, .int .i64 y1, .int .i64 x2, .int .i64 y2, .int .i64 px, .int .i64 py], 29, true, 2⟩)] := by
 refine qK Try.func121 (fun w0 W pin => ?_)
 refine aw_e 3 3 3<|qD 6 7<|aw_p 13 (
  .a 3 6 <| .p (xJ _ (fB qx qy rx ry px py oO oO oO oO oO oO oO oO oO oO oO oO) true ((Sp.tV h))) <| .e 1 6) ?_
 refine qP 27<|qH<|qD 14 15<|aw_e 29 3 6<|qM 0 59<|q6 119<|qE<|aw_e 239 1 6<|qD 478 479<|qR 956<|qH<|qD 958 959<|qM 1 1917<|aw_e 3835 4 6<|aw_p 7671 (
  .a 2 7 <| .p (qV false ((show ((x1 == px) && ((y1 == py) && true)) = false from (Sp.wC (l := [(x1, y1), (x2, y2)]) (x := x1) (y := y1) (by simp) (Sp.fK h))))) <| .nil _ _) ?_
 refine qP 15343<|qH<|aw_e1 2 7<|qE<|aw_e 239 1 7<|qD 478 479<|qR 956<|qH<|qD 958 959<|qM 1 1917<|aw_e 3835 4 7<|aw_p 7671 (
  .a 2 8 <| .p (qV false ((show ((x2 == px) && ((y2 == py) && true)) = false from (Sp.wC (l := [(x1, y1), (x2, y2)]) (x := x2) (y := y2) (by simp) (Sp.fK h))))) <| .nil _ _) ?_
 refine qP 15343<|qH<|aw_e1 2 8<|qE<|aw_e 239 1 8<|qD 478 479<|qP 957<|q5 0<|qG<|qW (
  .a 3 8 <| .p (jQ 2) <| .e 1 9) ?_
 exact v8 [] kK
theorem shadd3S (x1 y1 x2 y2 x3 y3 px py qx qy rx ry : Int) (pxl : -1048576 ≤ px) (pxu : px ≤ 1048576) (pyl : -1048576 ≤ py) (pyu : py ≤ 1048576) (qxl : -1048576 ≤ qx) (qxu : qx ≤ 1048576) (qyl : -1048576 ≤ qy) (qyu : qy ≤ 1048576) (rxl : -1048576 ≤ rx) (rxu : rx ≤ 1048576) (ryl : -1048576 ≤ ry) (ryu : ry ≤ 1048576) (h : Sp.addb [(x1, y1), (x2, y2), (x3, y3)] px py qx qy rx ry = false) :
    AC Try.prog 121 2 ([.agg #[.int .i64 px, .int .i64 py], .agg #[.int .i64 qx, .int .i64 qy], .agg #[.int .i64 rx, .int .i64 ry], .pointer (some ⟨0, 0, none⟩)]) [(0, ⟨[.slice (some ⟨1, 0, none⟩) 3 0], 24, true, 1⟩), (1, ⟨[.int .i64 x1, .int .i64 y1, .int .i64 x2, .int .i64 y2, .int .i64 x3, .int .i64 y3], 29, true, 2⟩)] (.tuple #[]) [(0, ⟨[.slice (some ⟨1, 0, none⟩) 3 0], 24, true, 1⟩), (1, ⟨[.int .i64 x1, .int .i64 y1, .int .i64 x2, .int .i64 y2, .int .i64 x3, .int .i64 y3], 29, true, 2⟩)] := by
 refine qK Try.func121 (fun w0 W pin => ?_)
 refine aw_e 3 3 2<|qD 6 7<|aw_p 13 (
  .a 3 5 <| .p (qC (fB qx qy rx ry px py oO oO oO oO oO oO oO oO oO oO oO oO)) <| .e 1 5) ?_
 refine qY 26 27 (!(Sp.onb qx qy rx ry px py)) (fun h1 => ?_) (fun h1 => ?_)
 ·exact qF<|qB [] kK
 refine qH<|qD 14 15<|aw_e 29 3 5<|qM 0 59<|q6 119<|qE<|aw_e 239 1 5<|qD 478 479<|qR 956<|qH<|qD 958 959<|qM 1 1917<|aw_e 3835 4 5<|aw_p 7671 (
  .a 2 6 <| .p (qV ((x1 == px) && ((y1 == py) && true)) (rfl)) <| .nil _ _) ?_
 refine qY 15342 15343 ((x1 == px) && ((y1 == py) && true)) (fun h2 => ?_) (fun h2 => ?_)
 ·have h2p : ((x1 = px ∧ y1 = py)) := pB h2
  exact qF<|qB [] kK
 have h2p : ¬ ((x1 = px ∧ y1 = py)) := pB h2
 refine qH<|aw_e1 2 6<|qE<|aw_e 239 1 6<|qD 478 479<|qR 956<|qH<|qD 958 959<|qM 1 1917<|aw_e 3835 4 6<|aw_p 7671 (
  .a 2 7 <| .p (qV ((x2 == px) && ((y2 == py) && true)) (rfl)) <| .nil _ _) ?_
 refine qY 15342 15343 ((x2 == px) && ((y2 == py) && true)) (fun h3 => ?_) (fun h3 => ?_)
 ·have h3p : ((x2 = px ∧ y2 = py)) := pB h3
  exact qF<|qB [] kK
 have h3p : ¬ ((x2 = px ∧ y2 = py)) := pB h3
 refine qH<|aw_e1 2 7<|qE<|aw_e 239 1 7<|qD 478 479<|qR 956<|qH<|qD 958 959<|qM 1 1917<|aw_e 3835 4 7<|aw_p 7671 (
  .a 2 8 <|
  .p (qV true ((show ((x3 == px) && ((y3 == py) && true)) = true from (by have q := h; simp only [Sp.addb, Sp.has2, List.any_cons, List.any_nil, (show Sp.onb qx qy rx ry px py = true from (by simpa using h1)), h2, h3, Bool.or_false, Bool.false_or, Bool.true_and, Bool.not_eq_false'] at q; exact q)))) <| .nil _ _) ?_
 exact qR 15342<|qF<|qB [] kK
theorem shadd3A (x1 y1 x2 y2 x3 y3 px py qx qy rx ry : Int) (pxl : -1048576 ≤ px) (pxu : px ≤ 1048576) (pyl : -1048576 ≤ py) (pyu : py ≤ 1048576) (qxl : -1048576 ≤ qx) (qxu : qx ≤ 1048576) (qyl : -1048576 ≤ qy) (qyu : qy ≤ 1048576) (rxl : -1048576 ≤ rx) (rxu : rx ≤ 1048576) (ryl : -1048576 ≤ ry) (ryu : ry ≤ 1048576) (h : Sp.addb [(x1, y1), (x2, y2), (x3, y3)] px py qx qy rx ry = true) :
    AC Try.prog 121 2 ([.agg #[.int .i64 px, .int .i64 py], .agg #[.int .i64 qx, .int .i64 qy], .agg #[.int .i64 rx, .int .i64 ry], .pointer (some ⟨0, 0, none⟩)]) [(0, ⟨[.slice (some ⟨1, 0, none⟩) 3 0], 24, true, 1⟩), (1, ⟨[.int .i64 x1, .int .i64 y1, .int .i64 x2, .int .i64 y2, .int .i64 x3, .int .i64 y3], 29, true, 2⟩)] (.tuple #[]) [(0, ⟨[.slice (some ⟨2, 0, none⟩) 4 0], 24, true, 1⟩), (2, ⟨[.int .i64 x1, .int .i64 y1, .int .i64 x2, .int .i64 y2, .int .i64 x3, .int .i64 y3, .int .i64 px, .int .i64 py], 29, true, 2⟩)] := by
 refine qK Try.func121 (fun w0 W pin => ?_)
 refine aw_e 3 3 3<|qD 6 7<|aw_p 13 (
  .a 3 6 <| .p (xJ _ (fB qx qy rx ry px py oO oO oO oO oO oO oO oO oO oO oO oO) true ((Sp.tV h))) <| .e 1 6) ?_
 refine qP 27<|qH<|qD 14 15<|aw_e 29 3 6<|qM 0 59<|q6 119<|qE<|aw_e 239 1 6<|qD 478 479<|qR 956<|qH<|qD 958 959<|qM 1 1917<|aw_e 3835 4 6<|aw_p 7671 (
  .a 2 7 <| .p (qV false ((show ((x1 == px) && ((y1 == py) && true)) = false from (Sp.wC (l := [(x1, y1), (x2, y2), (x3, y3)]) (x := x1) (y := y1) (by simp) (Sp.fK h))))) <| .nil _ _) ?_
 refine qP 15343<|qH<|aw_e1 2 7<|qE<|aw_e 239 1 7<|qD 478 479<|qR 956<|qH<|qD 958 959<|qM 1 1917<|aw_e 3835 4 7<|aw_p 7671 (
  .a 2 8 <| .p (qV false ((show ((x2 == px) && ((y2 == py) && true)) = false from (Sp.wC (l := [(x1, y1), (x2, y2), (x3, y3)]) (x := x2) (y := y2) (by simp) (Sp.fK h))))) <| .nil _ _) ?_
 refine qP 15343<|qH<|aw_e1 2 8<|qE<|aw_e 239 1 8<|qD 478 479<|qR 956<|qH<|qD 958 959<|qM 1 1917<|aw_e 3835 4 8<|aw_p 7671 (
  .a 2 9 <| .p (qV false ((show ((x3 == px) && ((y3 == py) && true)) = false from (Sp.wC (l := [(x1, y1), (x2, y2), (x3, y3)]) (x := x3) (y := y3) (by simp) (Sp.fK h))))) <| .nil _ _) ?_
 refine qP 15343<|qH<|aw_e1 2 9<|qE<|aw_e 239 1 9<|qD 478 479<|qP 957<|q5 0<|qG<|qW (
  .a 3 9 <| .p (jQ 2) <| .e 1 10) ?_
 exact v8 [] kK
open Go Go.Proofs
theorem pR (ax ay bx b_y cx cy dx dy : Int) (axl : -1048576 ≤ ax) (axu : ax ≤ 1048576) (ayl : -1048576 ≤ ay) (ayu : ay ≤ 1048576) (bxl : -1048576 ≤ bx) (bxu : bx ≤ 1048576) (b_yl : -1048576 ≤ b_y) (b_yu : b_y ≤ 1048576) (cxl : -1048576 ≤ cx) (cxu : cx ≤ 1048576) (cyl : -1048576 ≤ cy) (cyu : cy ≤ 1048576) (dxl : -1048576 ≤ dx) (dxu : dx ≤ 1048576) (dyl : -1048576 ≤ dy) (dyu : dy ≤ 1048576) (g0 : Sp.addb [] ax ay cx cy dx dy = false) (g1 : Sp.addb [] bx b_y cx cy dx dy = false) (g2 : Sp.addb [] cx cy ax ay bx b_y = false) (g3 : Sp.addb [] dx dy ax ay bx b_y = false) :
    AC Try.prog 97 0 ([.agg #[.int .i64 ax, .int .i64 ay], .agg #[.int .i64 bx, .int .i64 b_y], .agg #[.int .i64 cx, .int .i64 cy], .agg #[.int .i64 dx, .int .i64 dy]]) [] (.slice none 0 0) [] := by
 refine qK Try.func97 (fun w0 W pin => ?_)
 refine aw_e 3 5 1<|aw_e 7 1 5<|aw_e 15 2 6<|aw_p 31 (
  .a 4 6 <| .p (qQ [5] (vL ax ay cx cy dx dy oO oO oO oO oO oO oO oO oO oO oO oO g0)) <| .nil _ _) ?_
 refine aw_p 63 (
  .a 4 6 <| .p (qQ [5] (vL bx b_y cx cy dx dy oO oO oO oO oO oO oO oO oO oO oO oO g1)) <| .nil _ _) ?_
 refine aw_p 127 (
  .a 4 6 <| .p (qQ [5] (vL cx cy ax ay bx b_y oO oO oO oO oO oO oO oO oO oO oO oO g2)) <| .nil _ _) ?_
 refine aw_p 255 (
  .a 4 6 <| .p (qQ [5] (vL dx dy ax ay bx b_y oO oO oO oO oO oO oO oO oO oO oO oO g3)) <| .nil _ _) ?_
 exact aw_e 511 2 6<|qF<|qB [.slice none 0 0] kK
theorem pQ (ax ay bx b_y cx cy dx dy : Int) (axl : -1048576 ≤ ax) (axu : ax ≤ 1048576) (ayl : -1048576 ≤ ay) (ayu : ay ≤ 1048576) (bxl : -1048576 ≤ bx) (bxu : bx ≤ 1048576) (b_yl : -1048576 ≤ b_y) (b_yu : b_y ≤ 1048576) (cxl : -1048576 ≤ cx) (cxu : cx ≤ 1048576) (cyl : -1048576 ≤ cy) (cyu : cy ≤ 1048576) (dxl : -1048576 ≤ dx) (dxu : dx ≤ 1048576) (dyl : -1048576 ≤ dy) (dyu : dy ≤ 1048576) (g0 : Sp.addb [] ax ay cx cy dx dy = false) (g1 : Sp.addb [] bx b_y cx cy dx dy = false) (g2 : Sp.addb [] cx cy ax ay bx b_y = false) (g3 : Sp.addb [] dx dy ax ay bx b_y = true) :
    AC Try.prog 97 0 ([.agg #[.int .i64 ax, .int .i64 ay], .agg #[.int .i64 bx, .int .i64 b_y], .agg #[.int .i64 cx, .int .i64 cy], .agg #[.int .i64 dx, .int .i64 dy]]) [] (.slice (some ⟨0, 0, none⟩) 1 0) [(0, ⟨[.int .i64 dx, .int .i64 dy], 29, true, 2⟩)] := by
 refine qK Try.func97 (fun w0 W pin => ?_)
 refine aw_e 3 5 1<|aw_e 7 1 5<|aw_e 15 2 6<|aw_p 31 (
  .a 4 6 <| .p (qQ [5] (vL ax ay cx cy dx dy oO oO oO oO oO oO oO oO oO oO oO oO g0)) <| .nil _ _) ?_
 refine aw_p 63 (
  .a 4 6 <| .p (qQ [5] (vL bx b_y cx cy dx dy oO oO oO oO oO oO oO oO oO oO oO oO g1)) <| .nil _ _) ?_
 refine aw_p 127 (
  .a 4 6 <| .p (qQ [5] (vL cx cy ax ay bx b_y oO oO oO oO oO oO oO oO oO oO oO oO g2)) <| .nil _ _) ?_
 refine aw_p 255 (
  .a 4 6 <| .p (qQ [5, 0] (vM dx dy ax ay bx b_y oO oO oO oO oO oO oO oO oO oO oO oO g3)) <| .nil _ _) ?_
 exact aw_e 511 2 6<|qF<|qB [.slice (some ⟨0, 0, none⟩) 1 0] kK
theorem pP (ax ay bx b_y cx cy dx dy : Int) (axl : -1048576 ≤ ax) (axu : ax ≤ 1048576) (ayl : -1048576 ≤ ay) (ayu : ay ≤ 1048576) (bxl : -1048576 ≤ bx) (bxu : bx ≤ 1048576) (b_yl : -1048576 ≤ b_y) (b_yu : b_y ≤ 1048576) (cxl : -1048576 ≤ cx) (cxu : cx ≤ 1048576) (cyl : -1048576 ≤ cy) (cyu : cy ≤ 1048576) (dxl : -1048576 ≤ dx) (dxu : dx ≤ 1048576) (dyl : -1048576 ≤ dy) (dyu : dy ≤ 1048576) (g0 : Sp.addb [] ax ay cx cy dx dy = false) (g1 : Sp.addb [] bx b_y cx cy dx dy = false) (g2 : Sp.addb [] cx cy ax ay bx b_y = true) (g3 : Sp.addb [(cx, cy)] dx dy ax ay bx b_y = false) :
    AC Try.prog 97 0 ([.agg #[.int .i64 ax, .int .i64 ay], .agg #[.int .i64 bx, .int .i64 b_y], .agg #[.int .i64 cx, .int .i64 cy], .agg #[.int .i64 dx, .int .i64 dy]]) [] (.slice (some ⟨0, 0, none⟩) 1 0) [(0, ⟨[.int .i64 cx, .int .i64 cy], 29, true, 2⟩)] := by
 refine qK Try.func97 (fun w0 W pin => ?_)
 refine aw_e 3 5 1<|aw_e 7 1 5<|aw_e 15 2 6<|aw_p 31 (
  .a 4 6 <| .p (qQ [5] (vL ax ay cx cy dx dy oO oO oO oO oO oO oO oO oO oO oO oO g0)) <| .nil _ _) ?_
 refine aw_p 63 (
  .a 4 6 <| .p (qQ [5] (vL bx b_y cx cy dx dy oO oO oO oO oO oO oO oO oO oO oO oO g1)) <| .nil _ _) ?_
 refine aw_p 127 (
  .a 4 6 <| .p (qQ [5, 0] (vM cx cy ax ay bx b_y oO oO oO oO oO oO oO oO oO oO oO oO g2)) <| .nil _ _) ?_
 refine aw_p 255 (
  .a 4 6 <| .p (qQ [5, 0] (yF cx cy dx dy ax ay bx b_y oO oO oO oO oO oO oO oO oO oO oO oO g3)) <| .nil _ _) ?_
 exact aw_e 511 2 6<|qF<|qB [.slice (some ⟨0, 0, none⟩) 1 0] kK
theorem pN (ax ay bx b_y cx cy dx dy : Int) (axl : -1048576 ≤ ax) (axu : ax ≤ 1048576) (ayl : -1048576 ≤ ay) (ayu : ay ≤ 1048576) (bxl : -1048576 ≤ bx) (bxu : bx ≤ 1048576) (b_yl : -1048576 ≤ b_y) (b_yu : b_y ≤ 1048576) (cxl : -1048576 ≤ cx) (cxu : cx ≤ 1048576) (cyl : -1048576 ≤ cy) (cyu : cy ≤ 1048576) (dxl : -1048576 ≤ dx) (dxu : dx ≤ 1048576) (dyl : -1048576 ≤ dy) (dyu : dy ≤ 1048576) (g0 : Sp.addb [] ax ay cx cy dx dy = false) (g1 : Sp.addb [] bx b_y cx cy dx dy = false) (g2 : Sp.addb [] cx cy ax ay bx b_y = true) (g3 : Sp.addb [(cx, cy)] dx dy ax ay bx b_y = true) :
    AC Try.prog 97 0 ([.agg #[.int .i64 ax, .int .i64 ay], .agg #[.int .i64 bx, .int .i64 b_y], .agg #[.int .i64 cx, .int .i64 cy], .agg #[.int .i64 dx, .int .i64 dy]]) [] (.slice (some ⟨0, 0, none⟩) 2 0) [(0, ⟨[.int .i64 cx, .int .i64 cy, .int .i64 dx, .int .i64 dy], 29, true, 2⟩)] := by
 refine qK Try.func97 (fun w0 W pin => ?_)
 refine aw_e 3 5 1<|aw_e 7 1 5<|aw_e 15 2 6<|aw_p 31 (
  .a 4 6 <| .p (qQ [5] (vL ax ay cx cy dx dy oO oO oO oO oO oO oO oO oO oO oO oO g0)) <| .nil _ _) ?_
 refine aw_p 63 (
  .a 4 6 <| .p (qQ [5] (vL bx b_y cx cy dx dy oO oO oO oO oO oO oO oO oO oO oO oO g1)) <| .nil _ _) ?_
 refine aw_p 127 (
  .a 4 6 <| .p (qQ [5, 6] (vM cx cy ax ay bx b_y oO oO oO oO oO oO oO oO oO oO oO oO g2)) <| .nil _ _) ?_
 refine aw_p 255 (
  .a 4 7 <| .p (qQ [5, 6, 0] (yG cx cy dx dy ax ay bx b_y oO oO oO oO oO oO oO oO oO oO oO oO g3)) <| .nil _ _) ?_
 exact aw_e 511 2 7<|qF<|qB [.slice (some ⟨0, 0, none⟩) 2 0] kK
theorem pM (ax ay bx b_y cx cy dx dy : Int) (axl : -1048576 ≤ ax) (axu : ax ≤ 1048576) (ayl : -1048576 ≤ ay) (ayu : ay ≤ 1048576) (bxl : -1048576 ≤ bx) (bxu : bx ≤ 1048576) (b_yl : -1048576 ≤ b_y) (b_yu : b_y ≤ 1048576) (cxl : -1048576 ≤ cx) (cxu : cx ≤ 1048576) (cyl : -1048576 ≤ cy) (cyu : cy ≤ 1048576) (dxl : -1048576 ≤ dx) (dxu : dx ≤ 1048576) (dyl : -1048576 ≤ dy) (dyu : dy ≤ 1048576) (g0 : Sp.addb [] ax ay cx cy dx dy = false) (g1 : Sp.addb [] bx b_y cx cy dx dy = true) (g2 : Sp.addb [(bx, b_y)] cx cy ax ay bx b_y = false) (g3 : Sp.addb [(bx, b_y)] dx dy ax ay bx b_y = false) :
    AC Try.prog 97 0 ([.agg #[.int .i64 ax, .int .i64 ay], .agg #[.int .i64 bx, .int .i64 b_y], .agg #[.int .i64 cx, .int .i64 cy], .agg #[.int .i64 dx, .int .i64 dy]]) [] (.slice (some ⟨0, 0, none⟩) 1 0) [(0, ⟨[.int .i64 bx, .int .i64 b_y], 29, true, 2⟩)] := by
 refine qK Try.func97 (fun w0 W pin => ?_)
 refine aw_e 3 5 1<|aw_e 7 1 5<|aw_e 15 2 6<|aw_p 31 (
  .a 4 6 <| .p (qQ [5] (vL ax ay cx cy dx dy oO oO oO oO oO oO oO oO oO oO oO oO g0)) <| .nil _ _) ?_
 refine aw_p 63 (
  .a 4 6 <| .p (qQ [5, 0] (vM bx b_y cx cy dx dy oO oO oO oO oO oO oO oO oO oO oO oO g1)) <| .nil _ _) ?_
 refine aw_p 127 (
  .a 4 6 <| .p (qQ [5, 0] (yF bx b_y cx cy ax ay bx b_y oO oO oO oO oO oO oO oO oO oO oO oO g2)) <| .nil _ _) ?_
 refine aw_p 255 (
  .a 4 6 <| .p (qQ [5, 0] (yF bx b_y dx dy ax ay bx b_y oO oO oO oO oO oO oO oO oO oO oO oO g3)) <| .nil _ _) ?_
 exact aw_e 511 2 6<|qF<|qB [.slice (some ⟨0, 0, none⟩) 1 0] kK
theorem pL (ax ay bx b_y cx cy dx dy : Int) (axl : -1048576 ≤ ax) (axu : ax ≤ 1048576) (ayl : -1048576 ≤ ay) (ayu : ay ≤ 1048576) (bxl : -1048576 ≤ bx) (bxu : bx ≤ 1048576) (b_yl : -1048576 ≤ b_y) (b_yu : b_y ≤ 1048576) (cxl : -1048576 ≤ cx) (cxu : cx ≤ 1048576) (cyl : -1048576 ≤ cy) (cyu : cy ≤ 1048576) (dxl : -1048576 ≤ dx) (dxu : dx ≤ 1048576) (dyl : -1048576 ≤ dy) (dyu : dy ≤ 1048576) (g0 : Sp.addb [] ax ay cx cy dx dy = false) (g1 : Sp.addb [] bx b_y cx cy dx dy = true) (g2 : Sp.addb [(bx, b_y)] cx cy ax ay bx b_y = false) (g3 : Sp.addb [(bx, b_y)] dx dy ax ay bx b_y = true) :
    AC Try.prog 97 0 ([.agg #[.int .i64 ax, .int .i64 ay], .agg #[.int .i64 bx, .int .i64 b_y], .agg #[.int .i64 cx, .int .i64 cy], .agg #[.int .i64 dx, .int .i64 dy]]) [] (.slice (some ⟨0, 0, none⟩) 2 0) [(0, ⟨[.int .i64 bx, .int .i64 b_y, .int .i64 dx, .int .i64 dy], 29, true, 2⟩)] := by
 refine qK Try.func97 (fun w0 W pin => ?_)
 refine aw_e 3 5 1<|aw_e 7 1 5<|aw_e 15 2 6<|aw_p 31 (
  .a 4 6 <| .p (qQ [5] (vL ax ay cx cy dx dy oO oO oO oO oO oO oO oO oO oO oO oO g0)) <| .nil _ _) ?_
 refine aw_p 63 (
  .a 4 6 <| .p (qQ [5, 6] (vM bx b_y cx cy dx dy oO oO oO oO oO oO oO oO oO oO oO oO g1)) <| .nil _ _) ?_
 refine aw_p 127 (
  .a 4 7 <| .p (qQ [5, 6] (yF bx b_y cx cy ax ay bx b_y oO oO oO oO oO oO oO oO oO oO oO oO g2)) <| .nil _ _) ?_
 refine aw_p 255 (
  .a 4 7 <| .p (qQ [5, 6, 0] (yG bx b_y dx dy ax ay bx b_y oO oO oO oO oO oO oO oO oO oO oO oO g3)) <| .nil _ _) ?_
 exact aw_e 511 2 7<|qF<|qB [.slice (some ⟨0, 0, none⟩) 2 0] kK
theorem pK (ax ay bx b_y cx cy dx dy : Int) (axl : -1048576 ≤ ax) (axu : ax ≤ 1048576) (ayl : -1048576 ≤ ay) (ayu : ay ≤ 1048576) (bxl : -1048576 ≤ bx) (bxu : bx ≤ 1048576) (b_yl : -1048576 ≤ b_y) (b_yu : b_y ≤ 1048576) (cxl : -1048576 ≤ cx) (cxu : cx ≤ 1048576) (cyl : -1048576 ≤ cy) (cyu : cy ≤ 1048576) (dxl : -1048576 ≤ dx) (dxu : dx ≤ 1048576) (dyl : -1048576 ≤ dy) (dyu : dy ≤ 1048576) (g0 : Sp.addb [] ax ay cx cy dx dy = false) (g1 : Sp.addb [] bx b_y cx cy dx dy = true) (g2 : Sp.addb [(bx, b_y)] cx cy ax ay bx b_y = true) (g3 : Sp.addb [(bx, b_y), (cx, cy)] dx dy ax ay bx b_y = false) :
    AC Try.prog 97 0 ([.agg #[.int .i64 ax, .int .i64 ay], .agg #[.int .i64 bx, .int .i64 b_y], .agg #[.int .i64 cx, .int .i64 cy], .agg #[.int .i64 dx, .int .i64 dy]]) [] (.slice (some ⟨0, 0, none⟩) 2 0) [(0, ⟨[.int .i64 bx, .int .i64 b_y, .int .i64 cx, .int .i64 cy], 29, true, 2⟩)] := by
 refine qK Try.func97 (fun w0 W pin => ?_)
 refine aw_e 3 5 1<|aw_e 7 1 5<|aw_e 15 2 6<|aw_p 31 (
  .a 4 6 <| .p (qQ [5] (vL ax ay cx cy dx dy oO oO oO oO oO oO oO oO oO oO oO oO g0)) <| .nil _ _) ?_
 refine aw_p 63 (
  .a 4 6 <| .p (qQ [5, 6] (vM bx b_y cx cy dx dy oO oO oO oO oO oO oO oO oO oO oO oO g1)) <| .nil _ _) ?_
 refine aw_p 127 (
  .a 4 7 <| .p (qQ [5, 6, 0] (yG bx b_y cx cy ax ay bx b_y oO oO oO oO oO oO oO oO oO oO oO oO g2)) <| .nil _ _) ?_
 refine aw_p 255 (
  .a 4 7 <| .p (qQ [5, 0] (cF bx b_y cx cy dx dy ax ay bx b_y oO oO oO oO oO oO oO oO oO oO oO oO g3)) <| .nil _ _) ?_
 exact aw_e 511 2 7<|qF<|qB [.slice (some ⟨0, 0, none⟩) 2 0] kK
theorem pJ (ax ay bx b_y cx cy dx dy : Int) (axl : -1048576 ≤ ax) (axu : ax ≤ 1048576) (ayl : -1048576 ≤ ay) (ayu : ay ≤ 1048576) (bxl : -1048576 ≤ bx) (bxu : bx ≤ 1048576) (b_yl : -1048576 ≤ b_y) (b_yu : b_y ≤ 1048576) (cxl : -1048576 ≤ cx) (cxu : cx ≤ 1048576) (cyl : -1048576 ≤ cy) (cyu : cy ≤ 1048576) (dxl : -1048576 ≤ dx) (dxu : dx ≤ 1048576) (dyl : -1048576 ≤ dy) (dyu : dy ≤ 1048576) (g0 : Sp.addb [] ax ay cx cy dx dy = false) (g1 : Sp.addb [] bx b_y cx cy dx dy = true) (g2 : Sp.addb [(bx, b_y)] cx cy ax ay bx b_y = true) (g3 : Sp.addb [(bx, b_y), (cx, cy)] dx dy ax ay bx b_y = true) :
    AC Try.prog 97 0 ([.agg #[.int .i64 ax, .int .i64 ay], .agg #[.int .i64 bx, .int .i64 b_y], .agg #[.int .i64 cx, .int .i64 cy], .agg #[.int .i64 dx, .int .i64 dy]]) [] (.slice (some ⟨0, 0, none⟩) 3 0) [(0, ⟨[.int .i64 bx, .int .i64 b_y, .int .i64 cx, .int .i64 cy, .int .i64 dx, .int .i64 dy], 29, true, 2⟩)] := by
 refine qK Try.func97 (fun w0 W pin => ?_)
 refine aw_e 3 5 1<|aw_e 7 1 5<|aw_e 15 2 6<|aw_p 31 (
  .a 4 6 <| .p (qQ [5] (vL ax ay cx cy dx dy oO oO oO oO oO oO oO oO oO oO oO oO g0)) <| .nil _ _) ?_
 refine aw_p 63 (
  .a 4 6 <| .p (qQ [5, 6] (vM bx b_y cx cy dx dy oO oO oO oO oO oO oO oO oO oO oO oO g1)) <| .nil _ _) ?_
 refine aw_p 127 (
  .a 4 7 <| .p (qQ [5, 6, 7] (yG bx b_y cx cy ax ay bx b_y oO oO oO oO oO oO oO oO oO oO oO oO g2)) <| .nil _ _) ?_
 refine aw_p 255 (
  .a 4 8 <| .p (qQ [5, 7, 0] (cG bx b_y cx cy dx dy ax ay bx b_y oO oO oO oO oO oO oO oO oO oO oO oO g3)) <| .nil _ _) ?_
 exact aw_e 511 2 8<|qF<|qB [.slice (some ⟨0, 0, none⟩) 3 0] kK
theorem pH (ax ay bx b_y cx cy dx dy : Int) (axl : -1048576 ≤ ax) (axu : ax ≤ 1048576) (ayl : -1048576 ≤ ay) (ayu : ay ≤ 1048576) (bxl : -1048576 ≤ bx) (bxu : bx ≤ 1048576) (b_yl : -1048576 ≤ b_y) (b_yu : b_y ≤ 1048576) (cxl : -1048576 ≤ cx) (cxu : cx ≤ 1048576) (cyl : -1048576 ≤ cy) (cyu : cy ≤ 1048576) (dxl : -1048576 ≤ dx) (dxu : dx ≤ 1048576) (dyl : -1048576 ≤ dy) (dyu : dy ≤ 1048576) (g0 : Sp.addb [] ax ay cx cy dx dy = true) (g1 : Sp.addb [(ax, ay)] bx b_y cx cy dx dy = false) (g2 : Sp.addb [(ax, ay)] cx cy ax ay bx b_y = false) (g3 : Sp.addb [(ax, ay)] dx dy ax ay bx b_y = false) :
    AC Try.prog 97 0 ([.agg #[.int .i64 ax, .int .i64 ay], .agg #[.int .i64 bx, .int .i64 b_y], .agg #[.int .i64 cx, .int .i64 cy], .agg #[.int .i64 dx, .int .i64 dy]]) [] (.slice (some ⟨0, 0, none⟩) 1 0) [(0, ⟨[.int .i64 ax, .int .i64 ay], 29, true, 2⟩)] := by
 refine qK Try.func97 (fun w0 W pin => ?_)
 refine aw_e 3 5 1<|aw_e 7 1 5<|aw_e 15 2 6<|aw_p 31 (
  .a 4 6 <| .p (qQ [5, 0] (vM ax ay cx cy dx dy oO oO oO oO oO oO oO oO oO oO oO oO g0)) <| .nil _ _) ?_
 refine aw_p 63 (
  .a 4 6 <| .p (qQ [5, 0] (yF ax ay bx b_y cx cy dx dy oO oO oO oO oO oO oO oO oO oO oO oO g1)) <| .nil _ _) ?_
 refine aw_p 127 (
  .a 4 6 <| .p (qQ [5, 0] (yF ax ay cx cy ax ay bx b_y oO oO oO oO oO oO oO oO oO oO oO oO g2)) <| .nil _ _) ?_
 refine aw_p 255 (
  .a 4 6 <| .p (qQ [5, 0] (yF ax ay dx dy ax ay bx b_y oO oO oO oO oO oO oO oO oO oO oO oO g3)) <| .nil _ _) ?_
 exact aw_e 511 2 6<|qF<|qB [.slice (some ⟨0, 0, none⟩) 1 0] kK
theorem pG (ax ay bx b_y cx cy dx dy : Int) (axl : -1048576 ≤ ax) (axu : ax ≤ 1048576) (ayl : -1048576 ≤ ay) (ayu : ay ≤ 1048576) (bxl : -1048576 ≤ bx) (bxu : bx ≤ 1048576) (b_yl : -1048576 ≤ b_y) (b_yu : b_y ≤ 1048576) (cxl : -1048576 ≤ cx) (cxu : cx ≤ 1048576) (cyl : -1048576 ≤ cy) (cyu : cy ≤ 1048576) (dxl : -1048576 ≤ dx) (dxu : dx ≤ 1048576) (dyl : -1048576 ≤ dy) (dyu : dy ≤ 1048576) (g0 : Sp.addb [] ax ay cx cy dx dy = true) (g1 : Sp.addb [(ax, ay)] bx b_y cx cy dx dy = false) (g2 : Sp.addb [(ax, ay)] cx cy ax ay bx b_y = false) (g3 : Sp.addb [(ax, ay)] dx dy ax ay bx b_y = true) :
    AC Try.prog 97 0 ([.agg #[.int .i64 ax, .int .i64 ay], .agg #[.int .i64 bx, .int .i64 b_y], .agg #[.int .i64 cx, .int .i64 cy], .agg #[.int .i64 dx, .int .i64 dy]]) [] (.slice (some ⟨0, 0, none⟩) 2 0) [(0, ⟨[.int .i64 ax, .int .i64 ay, .int .i64 dx, .int .i64 dy], 29, true, 2⟩)] := by
 refine qK Try.func97 (fun w0 W pin => ?_)
 refine aw_e 3 5 1<|aw_e 7 1 5<|aw_e 15 2 6<|aw_p 31 (
  .a 4 6 <| .p (qQ [5, 6] (vM ax ay cx cy dx dy oO oO oO oO oO oO oO oO oO oO oO oO g0)) <| .nil _ _) ?_
 refine aw_p 63 (
  .a 4 7 <| .p (qQ [5, 6] (yF ax ay bx b_y cx cy dx dy oO oO oO oO oO oO oO oO oO oO oO oO g1)) <| .nil _ _) ?_
 refine aw_p 127 (
  .a 4 7 <| .p (qQ [5, 6] (yF ax ay cx cy ax ay bx b_y oO oO oO oO oO oO oO oO oO oO oO oO g2)) <| .nil _ _) ?_
 refine aw_p 255 (
  .a 4 7 <| .p (qQ [5, 6, 0] (yG ax ay dx dy ax ay bx b_y oO oO oO oO oO oO oO oO oO oO oO oO g3)) <| .nil _ _) ?_
 exact aw_e 511 2 7<|qF<|qB [.slice (some ⟨0, 0, none⟩) 2 0] kK
theorem pF (ax ay bx b_y cx cy dx dy : Int) (axl : -1048576 ≤ ax) (axu : ax ≤ 1048576) (ayl : -1048576 ≤ ay) (ayu : ay ≤ 1048576) (bxl : -1048576 ≤ bx) (bxu : bx ≤ 1048576) (b_yl : -1048576 ≤ b_y) (b_yu : b_y ≤ 1048576) (cxl : -1048576 ≤ cx) (cxu : cx ≤ 1048576) (cyl : -1048576 ≤ cy) (cyu : cy ≤ 1048576) (dxl : -1048576 ≤ dx) (dxu : dx ≤ 1048576) (dyl : -1048576 ≤ dy) (dyu : dy ≤ 1048576) (g0 : Sp.addb [] ax ay cx cy dx dy = true) (g1 : Sp.addb [(ax, ay)] bx b_y cx cy dx dy = false) (g2 : Sp.addb [(ax, ay)] cx cy ax ay bx b_y = true) (g3 : Sp.addb [(ax, ay), (cx, cy)] dx dy ax ay bx b_y = false) :
    AC Try.prog 97 0 ([.agg #[.int .i64 ax, .int .i64 ay], .agg #[.int .i64 bx, .int .i64 b_y], .agg #[.int .i64 cx, .int .i64 cy], .agg #[.int .i64 dx, .int .i64 dy]]) [] (.slice (some ⟨0, 0, none⟩) 2 0) [(0, ⟨[.int .i64 ax, .int .i64 ay, .int .i64 cx, .int .i64 cy], 29, true, 2⟩)] := by
 refine qK Try.func97 (fun w0 W pin => ?_)
 refine aw_e 3 5 1<|aw_e 7 1 5<|aw_e 15 2 6<|aw_p 31 (
  .a 4 6 <| .p (qQ [5, 6] (vM ax ay cx cy dx dy oO oO oO oO oO oO oO oO oO oO oO oO g0)) <| .nil _ _) ?_
 refine aw_p 63 (
  .a 4 7 <| .p (qQ [5, 6] (yF ax ay bx b_y cx cy dx dy oO oO oO oO oO oO oO oO oO oO oO oO g1)) <| .nil _ _) ?_
 refine aw_p 127 (
  .a 4 7 <| .p (qQ [5, 6, 0] (yG ax ay cx cy ax ay bx b_y oO oO oO oO oO oO oO oO oO oO oO oO g2)) <| .nil _ _) ?_
 refine aw_p 255 (
  .a 4 7 <| .p (qQ [5, 0] (cF ax ay cx cy dx dy ax ay bx b_y oO oO oO oO oO oO oO oO oO oO oO oO g3)) <| .nil _ _) ?_
 exact aw_e 511 2 7<|qF<|qB [.slice (some ⟨0, 0, none⟩) 2 0] kK
theorem pE (ax ay bx b_y cx cy dx dy : Int) (axl : -1048576 ≤ ax) (axu : ax ≤ 1048576) (ayl : -1048576 ≤ ay) (ayu : ay ≤ 1048576) (bxl : -1048576 ≤ bx) (bxu : bx ≤ 1048576) (b_yl : -1048576 ≤ b_y) (b_yu : b_y ≤ 1048576) (cxl : -1048576 ≤ cx) (cxu : cx ≤ 1048576) (cyl : -1048576 ≤ cy) (cyu : cy ≤ 1048576) (dxl : -1048576 ≤ dx) (dxu : dx ≤ 1048576) (dyl : -1048576 ≤ dy) (dyu : dy ≤ 1048576) (g0 : Sp.addb [] ax ay cx cy dx dy = true) (g1 : Sp.addb [(ax, ay)] bx b_y cx cy dx dy = false) (g2 : Sp.addb [(ax, ay)] cx cy ax ay bx b_y = true) (g3 : Sp.addb [(ax, ay), (cx, cy)] dx dy ax ay bx b_y = true) :
    AC Try.prog 97 0 ([.agg #[.int .i64 ax, .int .i64 ay], .agg #[.int .i64 bx, .int .i64 b_y], .agg #[.int .i64 cx, .int .i64 cy], .agg #[.int .i64 dx, .int .i64 dy]]) [] (.slice (some ⟨0, 0, none⟩) 3 0) [(0, ⟨[.int .i64 ax, .int .i64 ay, .int .i64 cx, .int .i64 cy, .int .i64 dx, .int .i64 dy], 29, true, 2⟩)] := by
 refine qK Try.func97 (fun w0 W pin => ?_)
 refine aw_e 3 5 1<|aw_e 7 1 5<|aw_e 15 2 6<|aw_p 31 (
  .a 4 6 <| .p (qQ [5, 6] (vM ax ay cx cy dx dy oO oO oO oO oO oO oO oO oO oO oO oO g0)) <| .nil _ _) ?_
 refine aw_p 63 (
  .a 4 7 <| .p (qQ [5, 6] (yF ax ay bx b_y cx cy dx dy oO oO oO oO oO oO oO oO oO oO oO oO g1)) <| .nil _ _) ?_
 refine aw_p 127 (
  .a 4 7 <| .p (qQ [5, 6, 7] (yG ax ay cx cy ax ay bx b_y oO oO oO oO oO oO oO oO oO oO oO oO g2)) <| .nil _ _) ?_
 refine aw_p 255 (
  .a 4 8 <| .p (qQ [5, 7, 0] (cG ax ay cx cy dx dy ax ay bx b_y oO oO oO oO oO oO oO oO oO oO oO oO g3)) <| .nil _ _) ?_
 exact aw_e 511 2 8<|qF<|qB [.slice (some ⟨0, 0, none⟩) 3 0] kK
theorem pD (ax ay bx b_y cx cy dx dy : Int) (axl : -1048576 ≤ ax) (axu : ax ≤ 1048576) (ayl : -1048576 ≤ ay) (ayu : ay ≤ 1048576) (bxl : -1048576 ≤ bx) (bxu : bx ≤ 1048576) (b_yl : -1048576 ≤ b_y) (b_yu : b_y ≤ 1048576) (cxl : -1048576 ≤ cx) (cxu : cx ≤ 1048576) (cyl : -1048576 ≤ cy) (cyu : cy ≤ 1048576) (dxl : -1048576 ≤ dx) (dxu : dx ≤ 1048576) (dyl : -1048576 ≤ dy) (dyu : dy ≤ 1048576) (g0 : Sp.addb [] ax ay cx cy dx dy = true) (g1 : Sp.addb [(ax, ay)] bx b_y cx cy dx dy = true) (g2 : Sp.addb [(ax, ay), (bx, b_y)] cx cy ax ay bx b_y = false) (g3 : Sp.addb [(ax, ay), (bx, b_y)] dx dy ax ay bx b_y = false) :
    AC Try.prog 97 0 ([.agg #[.int .i64 ax, .int .i64 ay], .agg #[.int .i64 bx, .int .i64 b_y], .agg #[.int .i64 cx, .int .i64 cy], .agg #[.int .i64 dx, .int .i64 dy]]) [] (.slice (some ⟨0, 0, none⟩) 2 0) [(0, ⟨[.int .i64 ax, .int .i64 ay, .int .i64 bx, .int .i64 b_y], 29, true, 2⟩)] := by
 refine qK Try.func97 (fun w0 W pin => ?_)
 refine aw_e 3 5 1<|aw_e 7 1 5<|aw_e 15 2 6<|aw_p 31 (
  .a 4 6 <| .p (qQ [5, 6] (vM ax ay cx cy dx dy oO oO oO oO oO oO oO oO oO oO oO oO g0)) <| .nil _ _) ?_
 refine aw_p 63 (
  .a 4 7 <| .p (qQ [5, 6, 0] (yG ax ay bx b_y cx cy dx dy oO oO oO oO oO oO oO oO oO oO oO oO g1)) <| .nil _ _) ?_
 refine aw_p 127 (
  .a 4 7 <| .p (qQ [5, 0] (cF ax ay bx b_y cx cy ax ay bx b_y oO oO oO oO oO oO oO oO oO oO oO oO g2)) <| .nil _ _) ?_
 refine aw_p 255 (
  .a 4 7 <| .p (qQ [5, 0] (cF ax ay bx b_y dx dy ax ay bx b_y oO oO oO oO oO oO oO oO oO oO oO oO g3)) <| .nil _ _) ?_
 exact aw_e 511 2 7<|qF<|qB [.slice (some ⟨0, 0, none⟩) 2 0] kK
theorem pC (ax ay bx b_y cx cy dx dy : Int) (axl : -1048576 ≤ ax) (axu : ax ≤ 1048576) (ayl : -1048576 ≤ ay) (ayu : ay ≤ 1048576) (bxl : -1048576 ≤ bx) (bxu : bx ≤ 1048576) (b_yl : -1048576 ≤ b_y) (b_yu : b_y ≤ 1048576) (cxl : -1048576 ≤ cx) (cxu : cx ≤ 1048576) (cyl : -1048576 ≤ cy) (cyu : cy ≤ 1048576) (dxl : -1048576 ≤ dx) (dxu : dx ≤ 1048576) (dyl : -1048576 ≤ dy) (dyu : dy ≤ 1048576) (g0 : Sp.addb [] ax ay cx cy dx dy = true) (g1 : Sp.addb [(ax, ay)] bx b_y cx cy dx dy = true) (g2 : Sp.addb [(ax, ay), (bx, b_y)] cx cy ax ay bx b_y = false) (g3 : Sp.addb [(ax, ay), (bx, b_y)] dx dy ax ay bx b_y = true) :
    AC Try.prog 97 0 ([.agg #[.int .i64 ax, .int .i64 ay], .agg #[.int .i64 bx, .int .i64 b_y], .agg #[.int .i64 cx, .int .i64 cy], .agg #[.int .i64 dx, .int .i64 dy]]) [] (.slice (some ⟨0, 0, none⟩) 3 0) [(0, ⟨[.int .i64 ax, .int .i64 ay, .int .i64 bx, .int .i64 b_y, .int .i64 dx, .int .i64 dy], 29, true, 2⟩)] := by
 refine qK Try.func97 (fun w0 W pin => ?_)
 refine aw_e 3 5 1<|aw_e 7 1 5<|aw_e 15 2 6<|aw_p 31 (
  .a 4 6 <| .p (qQ [5, 6] (vM ax ay cx cy dx dy oO oO oO oO oO oO oO oO oO oO oO oO g0)) <| .nil _ _) ?_
 refine aw_p 63 (
  .a 4 7 <| .p (qQ [5, 6, 7] (yG ax ay bx b_y cx cy dx dy oO oO oO oO oO oO oO oO oO oO oO oO g1)) <| .nil _ _) ?_
 refine aw_p 127 (
  .a 4 8 <| .p (qQ [5, 7] (cF ax ay bx b_y cx cy ax ay bx b_y oO oO oO oO oO oO oO oO oO oO oO oO g2)) <| .nil _ _) ?_
 refine aw_p 255 (
  .a 4 8 <| .p (qQ [5, 7, 0] (cG ax ay bx b_y dx dy ax ay bx b_y oO oO oO oO oO oO oO oO oO oO oO oO g3)) <| .nil _ _) ?_
 exact aw_e 511 2 8<|qF<|qB [.slice (some ⟨0, 0, none⟩) 3 0] kK
theorem pA (ax ay bx b_y cx cy dx dy : Int) (axl : -1048576 ≤ ax) (axu : ax ≤ 1048576) (ayl : -1048576 ≤ ay) (ayu : ay ≤ 1048576) (bxl : -1048576 ≤ bx) (bxu : bx ≤ 1048576) (b_yl : -1048576 ≤ b_y) (b_yu : b_y ≤ 1048576) (cxl : -1048576 ≤ cx) (cxu : cx ≤ 1048576) (cyl : -1048576 ≤ cy) (cyu : cy ≤ 1048576) (dxl : -1048576 ≤ dx) (dxu : dx ≤ 1048576) (dyl : -1048576 ≤ dy) (dyu : dy ≤ 1048576) (g0 : Sp.addb [] ax ay cx cy dx dy = true) (g1 : Sp.addb [(ax, ay)] bx b_y cx cy dx dy = true) (g2 : Sp.addb [(ax, ay), (bx, b_y)] cx cy ax ay bx b_y = true) (g3 : Sp.addb [(ax, ay), (bx, b_y), (cx, cy)] dx dy ax ay bx b_y = false) :
    AC Try.prog 97 0 ([.agg #[.int .i64 ax, .int .i64 ay], .agg #[.int .i64 bx, .int .i64 b_y], .agg #[.int .i64 cx, .int .i64 cy], .agg #[.int .i64 dx, .int .i64 dy]]) [] (.slice (some ⟨0, 0, none⟩) 3 0) [(0, ⟨[.int .i64 ax, .int .i64 ay, .int .i64 bx, .int .i64 b_y, .int .i64 cx, .int .i64 cy], 29, true, 2⟩)] := by
 refine qK Try.func97 (fun w0 W pin => ?_)
 refine aw_e 3 5 1<|aw_e 7 1 5<|aw_e 15 2 6<|aw_p 31 (
  .a 4 6 <| .p (qQ [5, 6] (vM ax ay cx cy dx dy oO oO oO oO oO oO oO oO oO oO oO oO g0)) <| .nil _ _) ?_
 refine aw_p 63 (
  .a 4 7 <| .p (qQ [5, 6, 7] (yG ax ay bx b_y cx cy dx dy oO oO oO oO oO oO oO oO oO oO oO oO g1)) <| .nil _ _) ?_
 refine aw_p 127 (
  .a 4 8 <| .p (qQ [5, 7, 0] (cG ax ay bx b_y cx cy ax ay bx b_y oO oO oO oO oO oO oO oO oO oO oO oO g2)) <| .nil _ _) ?_
 refine aw_p 255 (
  .a 4 8 <| .p (qQ [5, 0] (shadd3S ax ay bx b_y cx cy dx dy ax ay bx b_y oO oO oO oO oO oO oO oO oO oO oO oO g3)) <| .nil _ _) ?_
 exact aw_e 511 2 8<|qF<|qB [.slice (some ⟨0, 0, none⟩) 3 0] kK
theorem u9 (ax ay bx b_y cx cy dx dy : Int) (axl : -1048576 ≤ ax) (axu : ax ≤ 1048576) (ayl : -1048576 ≤ ay) (ayu : ay ≤ 1048576) (bxl : -1048576 ≤ bx) (bxu : bx ≤ 1048576) (b_yl : -1048576 ≤ b_y) (b_yu : b_y ≤ 1048576) (cxl : -1048576 ≤ cx) (cxu : cx ≤ 1048576) (cyl : -1048576 ≤ cy) (cyu : cy ≤ 1048576) (dxl : -1048576 ≤ dx) (dxu : dx ≤ 1048576) (dyl : -1048576 ≤ dy) (dyu : dy ≤ 1048576) (g0 : Sp.addb [] ax ay cx cy dx dy = true) (g1 : Sp.addb [(ax, ay)] bx b_y cx cy dx dy = true) (g2 : Sp.addb [(ax, ay), (bx, b_y)] cx cy ax ay bx b_y = true) (g3 : Sp.addb [(ax, ay), (bx, b_y), (cx, cy)] dx dy ax ay bx b_y = true) :
    AC Try.prog 97 0 ([.agg #[.int .i64 ax, .int .i64 ay], .agg #[.int .i64 bx, .int .i64 b_y], .agg #[.int .i64 cx, .int .i64 cy], .agg #[.int .i64 dx, .int .i64 dy]]) [] (.slice (some ⟨0, 0, none⟩) 4 0) [(0, ⟨[.int .i64 ax, .int .i64 ay, .int .i64 bx, .int .i64 b_y, .int .i64 cx, .int .i64 cy, .int .i64 dx, .int .i64 dy], 29, true, 2⟩)] := by
 refine qK Try.func97 (fun w0 W pin => ?_)
 refine aw_e 3 5 1<|aw_e 7 1 5<|aw_e 15 2 6<|aw_p 31 (
  .a 4 6 <| .p (qQ [5, 6] (vM ax ay cx cy dx dy oO oO oO oO oO oO oO oO oO oO oO oO g0)) <| .nil _ _) ?_
 refine aw_p 63 (
  .a 4 7 <| .p (qQ [5, 6, 7] (yG ax ay bx b_y cx cy dx dy oO oO oO oO oO oO oO oO oO oO oO oO g1)) <| .nil _ _) ?_
 refine aw_p 127 (
  .a 4 8 <| .p (qQ [5, 7, 8] (cG ax ay bx b_y cx cy ax ay bx b_y oO oO oO oO oO oO oO oO oO oO oO oO g2)) <| .nil _ _) ?_
 refine aw_p 255 (
  .a 4 9 <| .p (qQ [5, 8, 0] (shadd3A ax ay bx b_y cx cy dx dy ax ay bx b_y oO oO oO oO oO oO oO oO oO oO oO oO g3)) <| .nil _ _) ?_
 exact aw_e 511 2 9<|qF<|qB [.slice (some ⟨0, 0, none⟩) 4 0] kK
open Go Go.Proofs
theorem sK (ax ay bx b_y cx cy dx dy : Int) :
    AC Try.prog 96 0 ([.agg #[.int .i64 ax, .int .i64 ay], .agg #[.int .i64 bx, .int .i64 b_y], .agg #[.int .i64 cx, .int .i64 cy], .agg #[.int .i64 dx, .int .i64 dy]]) [] (.int .i64 (Sp.qX (Sp.lim 1048576 ax) (Sp.lim 1048576 ay) (Sp.lim 1048576 bx) (Sp.lim 1048576 b_y) (Sp.lim 1048576 cx) (Sp.lim 1048576 cy) (Sp.lim 1048576 dx) (Sp.lim 1048576 dy))) [] := by
 have qax := Sp.jP (m := 1048576) dD ax; have qay := Sp.jP (m := 1048576) dD ay; have qbx := Sp.jP (m := 1048576) dD bx; have qb_y := Sp.jP (m := 1048576) dD b_y; have qcx := Sp.jP (m := 1048576) dD cx; have qcy := Sp.jP (m := 1048576) dD cy; have qdx := Sp.jP (m := 1048576) dD dx; have qdy := Sp.jP (m := 1048576) dD dy; have c0 := j6 ax ay; have c1 := j6 bx b_y; have c2 := j6 cx cy; have c3 := j6 dx dy; generalize Sp.lim 1048576 ax = AX at *; generalize Sp.lim 1048576 ay = AY at *; generalize Sp.lim 1048576 bx = BX at *; generalize Sp.lim 1048576 b_y = B_Y at *; generalize Sp.lim 1048576 cx = CX at *; generalize Sp.lim 1048576 cy = CY at *; generalize Sp.lim 1048576 dx = DX at *; generalize Sp.lim 1048576 dy = DY at *; have cm := Sp.cmp3 AX AY BX B_Y CX CY DX DY
 refine qK Try.func96 (fun w0 W pin => ?_)
 refine aw_e 3 5 1<|aw_d 7 (
  .a 1 5 <| .p (qC (c0)) <| .a 1 5 <| .p (qC (c1)) <| .a 1 5 <| .p (qC (c2)) <| .a 1 5 <| .p (qC (c3)) <| .e 4 5) ?_
 refine qD 14 15 ?_
 rcases Bool.eq_false_or_eq_true (decide (((Sp.cmp (Sp.crs AX AY BX B_Y CX CY) 0) * (Sp.cmp (Sp.crs AX AY BX B_Y DX DY) 0)) < 0)) with h1 | h1
 ·have h1p : ((((Sp.cmp (Sp.crs AX AY BX B_Y CX CY) 0) * (Sp.cmp (Sp.crs AX AY BX B_Y DX DY) 0)) < 0)) := pB h1
  refine aw_d 29 (
   .a 3 5 <| .p (qC (vY AX AY BX B_Y CX CY oO oO oO oO oO oO oO oO oO oO oO oO)) <| .a 3 5 <|
   .p (qC (vY AX AY BX B_Y DX DY oO oO oO oO oO oO oO oO oO oO oO oO)) <|
   .p (qJ ((Sp.cmp (Sp.crs AX AY BX B_Y CX CY) 0) * (Sp.cmp (Sp.crs AX AY BX B_Y DX DY) 0)) (wrap_i64 oO oO) .i64) <| .p (qN true (h1)) <| .a 4 5 <|
   .p (qC (vY CX CY DX DY AX AY oO oO oO oO oO oO oO oO oO oO oO oO)) <| .a 3 5 <|
   .p (qC (vY CX CY DX DY BX B_Y oO oO oO oO oO oO oO oO oO oO oO oO)) <|
   .p (qJ ((Sp.cmp (Sp.crs CX CY DX DY AX AY) 0) * (Sp.cmp (Sp.crs CX CY DX DY BX B_Y) 0)) (wrap_i64 oO oO) .i64) <| .e 2 5) ?_
  refine qY 58 59 (decide (((Sp.cmp (Sp.crs CX CY DX DY AX AY) 0) * (Sp.cmp (Sp.crs CX CY DX DY BX B_Y) 0)) < 0)) (fun h2 => ?_) (fun h2 => ?_)
  ·have h2p : ((((Sp.cmp (Sp.crs CX CY DX DY AX AY) 0) * (Sp.cmp (Sp.crs CX CY DX DY BX B_Y) 0)) < 0)) := pB h2
   exact aw_e 117 1 5<|qF<|qB [.int .i64 1] (show (.int .i64 1 : Value) = (.int .i64 (Sp.qX AX AY BX B_Y CX CY DX DY)) from (congrArg (Value.int .i64) (show 1 = (Sp.qX AX AY BX B_Y CX CY DX DY) from by exact (if_pos (show Sp.prp AX AY BX B_Y CX CY DX DY = true from by simp [Sp.prp, *])).symm)))
  have h2p : ¬ ((((Sp.cmp (Sp.crs CX CY DX DY AX AY) 0) * (Sp.cmp (Sp.crs CX CY DX DY BX B_Y) 0)) < 0)) := pB h2
  refine qH ?_
  rcases Bool.eq_false_or_eq_true (Sp.addb [] AX AY CX CY DX DY) with h3 | h3
  ·rcases Bool.eq_false_or_eq_true (Sp.addb [(AX, AY)] BX B_Y CX CY DX DY) with h4 | h4
   ·rcases Bool.eq_false_or_eq_true (Sp.addb [(AX, AY), (BX, B_Y)] CX CY AX AY BX B_Y) with h5 | h5
    ·rcases Bool.eq_false_or_eq_true (Sp.addb [(AX, AY), (BX, B_Y), (CX, CY)] DX DY AX AY BX B_Y) with h6 | h6
     ·refine aw_p 31 (
       .a 4 5 <| .p (qQ [5] (u9 AX AY BX B_Y CX CY DX DY oO oO oO oO oO oO oO oO oO oO oO oO oO oO oO oO h3 h4 h5 h6)) <| .e 3 6) ?_
      exact qF<|qB [.int .i64 2] (show (.int .i64 2 : Value) = (.int .i64 (Sp.qX AX AY BX B_Y CX CY DX DY)) from (congrArg (Value.int .i64) (show 2 = (Sp.qX AX AY BX B_Y CX CY DX DY) from by (unfold Sp.qX; rw [if_neg (show ¬ Sp.prp AX AY BX B_Y CX CY DX DY = true from by simp [Sp.prp, *])]; unfold Sp.shr; rw [(show Sp.addp [] AX AY CX CY DX DY = [(AX, AY)] from Sp.q9 h3), (show Sp.addp [(AX, AY)] BX B_Y CX CY DX DY = [(AX, AY), (BX, B_Y)] from Sp.q9 h4), (show Sp.addp [(AX, AY), (BX, B_Y)] CX CY AX AY BX B_Y = [(AX, AY), (BX, B_Y), (CX, CY)] from Sp.q9 h5), (show Sp.addp [(AX, AY), (BX, B_Y), (CX, CY)] DX DY AX AY BX B_Y = [(AX, AY), (BX, B_Y), (CX, CY), (DX, DY)] from Sp.q9 h6)]; rfl))))
     refine aw_p 31 (
      .a 4 5 <| .p (qQ [5] (pA AX AY BX B_Y CX CY DX DY oO oO oO oO oO oO oO oO oO oO oO oO oO oO oO oO h3 h4 h5 h6)) <| .e 3 6) ?_
     exact qF<|qB [.int .i64 2] (show (.int .i64 2 : Value) = (.int .i64 (Sp.qX AX AY BX B_Y CX CY DX DY)) from (congrArg (Value.int .i64) (show 2 = (Sp.qX AX AY BX B_Y CX CY DX DY) from by (unfold Sp.qX; rw [if_neg (show ¬ Sp.prp AX AY BX B_Y CX CY DX DY = true from by simp [Sp.prp, *])]; unfold Sp.shr; rw [(show Sp.addp [] AX AY CX CY DX DY = [(AX, AY)] from Sp.q9 h3), (show Sp.addp [(AX, AY)] BX B_Y CX CY DX DY = [(AX, AY), (BX, B_Y)] from Sp.q9 h4), (show Sp.addp [(AX, AY), (BX, B_Y)] CX CY AX AY BX B_Y = [(AX, AY), (BX, B_Y), (CX, CY)] from Sp.q9 h5), (show Sp.addp [(AX, AY), (BX, B_Y), (CX, CY)] DX DY AX AY BX B_Y = [(AX, AY), (BX, B_Y), (CX, CY)] from Sp.q8 h6)]; rfl))))
    rcases Bool.eq_false_or_eq_true (Sp.addb [(AX, AY), (BX, B_Y)] DX DY AX AY BX B_Y) with h7 | h7
    ·refine aw_p 31 (
      .a 4 5 <| .p (qQ [5] (pC AX AY BX B_Y CX CY DX DY oO oO oO oO oO oO oO oO oO oO oO oO oO oO oO oO h3 h4 h5 h7)) <| .e 3 6) ?_
     exact qF<|qB [.int .i64 2] (show (.int .i64 2 : Value) = (.int .i64 (Sp.qX AX AY BX B_Y CX CY DX DY)) from (congrArg (Value.int .i64) (show 2 = (Sp.qX AX AY BX B_Y CX CY DX DY) from by (unfold Sp.qX; rw [if_neg (show ¬ Sp.prp AX AY BX B_Y CX CY DX DY = true from by simp [Sp.prp, *])]; unfold Sp.shr; rw [(show Sp.addp [] AX AY CX CY DX DY = [(AX, AY)] from Sp.q9 h3), (show Sp.addp [(AX, AY)] BX B_Y CX CY DX DY = [(AX, AY), (BX, B_Y)] from Sp.q9 h4), (show Sp.addp [(AX, AY), (BX, B_Y)] CX CY AX AY BX B_Y = [(AX, AY), (BX, B_Y)] from Sp.q8 h5), (show Sp.addp [(AX, AY), (BX, B_Y)] DX DY AX AY BX B_Y = [(AX, AY), (BX, B_Y), (DX, DY)] from Sp.q9 h7)]; rfl))))
    refine aw_p 31 (
     .a 4 5 <| .p (qQ [5] (pD AX AY BX B_Y CX CY DX DY oO oO oO oO oO oO oO oO oO oO oO oO oO oO oO oO h3 h4 h5 h7)) <| .e 3 6) ?_
    exact qF<|qB [.int .i64 2] (show (.int .i64 2 : Value) = (.int .i64 (Sp.qX AX AY BX B_Y CX CY DX DY)) from (congrArg (Value.int .i64) (show 2 = (Sp.qX AX AY BX B_Y CX CY DX DY) from by (unfold Sp.qX; rw [if_neg (show ¬ Sp.prp AX AY BX B_Y CX CY DX DY = true from by simp [Sp.prp, *])]; unfold Sp.shr; rw [(show Sp.addp [] AX AY CX CY DX DY = [(AX, AY)] from Sp.q9 h3), (show Sp.addp [(AX, AY)] BX B_Y CX CY DX DY = [(AX, AY), (BX, B_Y)] from Sp.q9 h4), (show Sp.addp [(AX, AY), (BX, B_Y)] CX CY AX AY BX B_Y = [(AX, AY), (BX, B_Y)] from Sp.q8 h5), (show Sp.addp [(AX, AY), (BX, B_Y)] DX DY AX AY BX B_Y = [(AX, AY), (BX, B_Y)] from Sp.q8 h7)]; rfl))))
   rcases Bool.eq_false_or_eq_true (Sp.addb [(AX, AY)] CX CY AX AY BX B_Y) with h8 | h8
   ·rcases Bool.eq_false_or_eq_true (Sp.addb [(AX, AY), (CX, CY)] DX DY AX AY BX B_Y) with h9 | h9
    ·refine aw_p 31 (
      .a 4 5 <| .p (qQ [5] (pE AX AY BX B_Y CX CY DX DY oO oO oO oO oO oO oO oO oO oO oO oO oO oO oO oO h3 h4 h8 h9)) <| .e 3 6) ?_
     exact qF<|qB [.int .i64 2] (show (.int .i64 2 : Value) = (.int .i64 (Sp.qX AX AY BX B_Y CX CY DX DY)) from (congrArg (Value.int .i64) (show 2 = (Sp.qX AX AY BX B_Y CX CY DX DY) from by (unfold Sp.qX; rw [if_neg (show ¬ Sp.prp AX AY BX B_Y CX CY DX DY = true from by simp [Sp.prp, *])]; unfold Sp.shr; rw [(show Sp.addp [] AX AY CX CY DX DY = [(AX, AY)] from Sp.q9 h3), (show Sp.addp [(AX, AY)] BX B_Y CX CY DX DY = [(AX, AY)] from Sp.q8 h4), (show Sp.addp [(AX, AY)] CX CY AX AY BX B_Y = [(AX, AY), (CX, CY)] from Sp.q9 h8), (show Sp.addp [(AX, AY), (CX, CY)] DX DY AX AY BX B_Y = [(AX, AY), (CX, CY), (DX, DY)] from Sp.q9 h9)]; rfl))))
    refine aw_p 31 (
     .a 4 5 <| .p (qQ [5] (pF AX AY BX B_Y CX CY DX DY oO oO oO oO oO oO oO oO oO oO oO oO oO oO oO oO h3 h4 h8 h9)) <| .e 3 6) ?_
    exact qF<|qB [.int .i64 2] (show (.int .i64 2 : Value) = (.int .i64 (Sp.qX AX AY BX B_Y CX CY DX DY)) from (congrArg (Value.int .i64) (show 2 = (Sp.qX AX AY BX B_Y CX CY DX DY) from by (unfold Sp.qX; rw [if_neg (show ¬ Sp.prp AX AY BX B_Y CX CY DX DY = true from by simp [Sp.prp, *])]; unfold Sp.shr; rw [(show Sp.addp [] AX AY CX CY DX DY = [(AX, AY)] from Sp.q9 h3), (show Sp.addp [(AX, AY)] BX B_Y CX CY DX DY = [(AX, AY)] from Sp.q8 h4), (show Sp.addp [(AX, AY)] CX CY AX AY BX B_Y = [(AX, AY), (CX, CY)] from Sp.q9 h8), (show Sp.addp [(AX, AY), (CX, CY)] DX DY AX AY BX B_Y = [(AX, AY), (CX, CY)] from Sp.q8 h9)]; rfl))))
   rcases Bool.eq_false_or_eq_true (Sp.addb [(AX, AY)] DX DY AX AY BX B_Y) with h10 | h10
   ·refine aw_p 31 (
     .a 4 5 <| .p (qQ [5] (pG AX AY BX B_Y CX CY DX DY oO oO oO oO oO oO oO oO oO oO oO oO oO oO oO oO h3 h4 h8 h10)) <| .e 3 6) ?_
    exact qF<|qB [.int .i64 2] (show (.int .i64 2 : Value) = (.int .i64 (Sp.qX AX AY BX B_Y CX CY DX DY)) from (congrArg (Value.int .i64) (show 2 = (Sp.qX AX AY BX B_Y CX CY DX DY) from by (unfold Sp.qX; rw [if_neg (show ¬ Sp.prp AX AY BX B_Y CX CY DX DY = true from by simp [Sp.prp, *])]; unfold Sp.shr; rw [(show Sp.addp [] AX AY CX CY DX DY = [(AX, AY)] from Sp.q9 h3), (show Sp.addp [(AX, AY)] BX B_Y CX CY DX DY = [(AX, AY)] from Sp.q8 h4), (show Sp.addp [(AX, AY)] CX CY AX AY BX B_Y = [(AX, AY)] from Sp.q8 h8), (show Sp.addp [(AX, AY)] DX DY AX AY BX B_Y = [(AX, AY), (DX, DY)] from Sp.q9 h10)]; rfl))))
   refine aw_p 31 (
    .a 4 5 <| .p (qQ [5] (pH AX AY BX B_Y CX CY DX DY oO oO oO oO oO oO oO oO oO oO oO oO oO oO oO oO h3 h4 h8 h10)) <| .e 3 6) ?_
   exact qF<|qB [.int .i64 1] (show (.int .i64 1 : Value) = (.int .i64 (Sp.qX AX AY BX B_Y CX CY DX DY)) from (congrArg (Value.int .i64) (show 1 = (Sp.qX AX AY BX B_Y CX CY DX DY) from by (unfold Sp.qX; rw [if_neg (show ¬ Sp.prp AX AY BX B_Y CX CY DX DY = true from by simp [Sp.prp, *])]; unfold Sp.shr; rw [(show Sp.addp [] AX AY CX CY DX DY = [(AX, AY)] from Sp.q9 h3), (show Sp.addp [(AX, AY)] BX B_Y CX CY DX DY = [(AX, AY)] from Sp.q8 h4), (show Sp.addp [(AX, AY)] CX CY AX AY BX B_Y = [(AX, AY)] from Sp.q8 h8), (show Sp.addp [(AX, AY)] DX DY AX AY BX B_Y = [(AX, AY)] from Sp.q8 h10)]; rfl))))
  rcases Bool.eq_false_or_eq_true (Sp.addb [] BX B_Y CX CY DX DY) with h11 | h11
  ·rcases Bool.eq_false_or_eq_true (Sp.addb [(BX, B_Y)] CX CY AX AY BX B_Y) with h12 | h12
   ·rcases Bool.eq_false_or_eq_true (Sp.addb [(BX, B_Y), (CX, CY)] DX DY AX AY BX B_Y) with h13 | h13
    ·refine aw_p 31 (
      .a 4 5 <| .p (qQ [5] (pJ AX AY BX B_Y CX CY DX DY oO oO oO oO oO oO oO oO oO oO oO oO oO oO oO oO h3 h11 h12 h13)) <| .e 3 6) ?_
     exact qF<|qB [.int .i64 2] (show (.int .i64 2 : Value) = (.int .i64 (Sp.qX AX AY BX B_Y CX CY DX DY)) from (congrArg (Value.int .i64) (show 2 = (Sp.qX AX AY BX B_Y CX CY DX DY) from by (unfold Sp.qX; rw [if_neg (show ¬ Sp.prp AX AY BX B_Y CX CY DX DY = true from by simp [Sp.prp, *])]; unfold Sp.shr; rw [(show Sp.addp [] AX AY CX CY DX DY = [] from Sp.q8 h3), (show Sp.addp [] BX B_Y CX CY DX DY = [(BX, B_Y)] from Sp.q9 h11), (show Sp.addp [(BX, B_Y)] CX CY AX AY BX B_Y = [(BX, B_Y), (CX, CY)] from Sp.q9 h12), (show Sp.addp [(BX, B_Y), (CX, CY)] DX DY AX AY BX B_Y = [(BX, B_Y), (CX, CY), (DX, DY)] from Sp.q9 h13)]; rfl))))
    refine aw_p 31 (
     .a 4 5 <| .p (qQ [5] (pK AX AY BX B_Y CX CY DX DY oO oO oO oO oO oO oO oO oO oO oO oO oO oO oO oO h3 h11 h12 h13)) <| .e 3 6) ?_
    exact qF<|qB [.int .i64 2] (show (.int .i64 2 : Value) = (.int .i64 (Sp.qX AX AY BX B_Y CX CY DX DY)) from (congrArg (Value.int .i64) (show 2 = (Sp.qX AX AY BX B_Y CX CY DX DY) from by (unfold Sp.qX; rw [if_neg (show ¬ Sp.prp AX AY BX B_Y CX CY DX DY = true from by simp [Sp.prp, *])]; unfold Sp.shr; rw [(show Sp.addp [] AX AY CX CY DX DY = [] from Sp.q8 h3), (show Sp.addp [] BX B_Y CX CY DX DY = [(BX, B_Y)] from Sp.q9 h11), (show Sp.addp [(BX, B_Y)] CX CY AX AY BX B_Y = [(BX, B_Y), (CX, CY)] from Sp.q9 h12), (show Sp.addp [(BX, B_Y), (CX, CY)] DX DY AX AY BX B_Y = [(BX, B_Y), (CX, CY)] from Sp.q8 h13)]; rfl))))
   rcases Bool.eq_false_or_eq_true (Sp.addb [(BX, B_Y)] DX DY AX AY BX B_Y) with h14 | h14
   ·refine aw_p 31 (
     .a 4 5 <| .p (qQ [5] (pL AX AY BX B_Y CX CY DX DY oO oO oO oO oO oO oO oO oO oO oO oO oO oO oO oO h3 h11 h12 h14)) <| .e 3 6) ?_
    exact qF<|qB [.int .i64 2] (show (.int .i64 2 : Value) = (.int .i64 (Sp.qX AX AY BX B_Y CX CY DX DY)) from (congrArg (Value.int .i64) (show 2 = (Sp.qX AX AY BX B_Y CX CY DX DY) from by (unfold Sp.qX; rw [if_neg (show ¬ Sp.prp AX AY BX B_Y CX CY DX DY = true from by simp [Sp.prp, *])]; unfold Sp.shr; rw [(show Sp.addp [] AX AY CX CY DX DY = [] from Sp.q8 h3), (show Sp.addp [] BX B_Y CX CY DX DY = [(BX, B_Y)] from Sp.q9 h11), (show Sp.addp [(BX, B_Y)] CX CY AX AY BX B_Y = [(BX, B_Y)] from Sp.q8 h12), (show Sp.addp [(BX, B_Y)] DX DY AX AY BX B_Y = [(BX, B_Y), (DX, DY)] from Sp.q9 h14)]; rfl))))
   refine aw_p 31 (
    .a 4 5 <| .p (qQ [5] (pM AX AY BX B_Y CX CY DX DY oO oO oO oO oO oO oO oO oO oO oO oO oO oO oO oO h3 h11 h12 h14)) <| .e 3 6) ?_
   exact qF<|qB [.int .i64 1] (show (.int .i64 1 : Value) = (.int .i64 (Sp.qX AX AY BX B_Y CX CY DX DY)) from (congrArg (Value.int .i64) (show 1 = (Sp.qX AX AY BX B_Y CX CY DX DY) from by (unfold Sp.qX; rw [if_neg (show ¬ Sp.prp AX AY BX B_Y CX CY DX DY = true from by simp [Sp.prp, *])]; unfold Sp.shr; rw [(show Sp.addp [] AX AY CX CY DX DY = [] from Sp.q8 h3), (show Sp.addp [] BX B_Y CX CY DX DY = [(BX, B_Y)] from Sp.q9 h11), (show Sp.addp [(BX, B_Y)] CX CY AX AY BX B_Y = [(BX, B_Y)] from Sp.q8 h12), (show Sp.addp [(BX, B_Y)] DX DY AX AY BX B_Y = [(BX, B_Y)] from Sp.q8 h14)]; rfl))))
  rcases Bool.eq_false_or_eq_true (Sp.addb [] CX CY AX AY BX B_Y) with h15 | h15
  ·rcases Bool.eq_false_or_eq_true (Sp.addb [(CX, CY)] DX DY AX AY BX B_Y) with h16 | h16
   ·refine aw_p 31 (
     .a 4 5 <| .p (qQ [5] (pN AX AY BX B_Y CX CY DX DY oO oO oO oO oO oO oO oO oO oO oO oO oO oO oO oO h3 h11 h15 h16)) <| .e 3 6) ?_
    exact qF<|qB [.int .i64 2] (show (.int .i64 2 : Value) = (.int .i64 (Sp.qX AX AY BX B_Y CX CY DX DY)) from (congrArg (Value.int .i64) (show 2 = (Sp.qX AX AY BX B_Y CX CY DX DY) from by (unfold Sp.qX; rw [if_neg (show ¬ Sp.prp AX AY BX B_Y CX CY DX DY = true from by simp [Sp.prp, *])]; unfold Sp.shr; rw [(show Sp.addp [] AX AY CX CY DX DY = [] from Sp.q8 h3), (show Sp.addp [] BX B_Y CX CY DX DY = [] from Sp.q8 h11), (show Sp.addp [] CX CY AX AY BX B_Y = [(CX, CY)] from Sp.q9 h15), (show Sp.addp [(CX, CY)] DX DY AX AY BX B_Y = [(CX, CY), (DX, DY)] from Sp.q9 h16)]; rfl))))
   refine aw_p 31 (
    .a 4 5 <| .p (qQ [5] (pP AX AY BX B_Y CX CY DX DY oO oO oO oO oO oO oO oO oO oO oO oO oO oO oO oO h3 h11 h15 h16)) <| .e 3 6) ?_
   exact qF<|qB [.int .i64 1] (show (.int .i64 1 : Value) = (.int .i64 (Sp.qX AX AY BX B_Y CX CY DX DY)) from (congrArg (Value.int .i64) (show 1 = (Sp.qX AX AY BX B_Y CX CY DX DY) from by (unfold Sp.qX; rw [if_neg (show ¬ Sp.prp AX AY BX B_Y CX CY DX DY = true from by simp [Sp.prp, *])]; unfold Sp.shr; rw [(show Sp.addp [] AX AY CX CY DX DY = [] from Sp.q8 h3), (show Sp.addp [] BX B_Y CX CY DX DY = [] from Sp.q8 h11), (show Sp.addp [] CX CY AX AY BX B_Y = [(CX, CY)] from Sp.q9 h15), (show Sp.addp [(CX, CY)] DX DY AX AY BX B_Y = [(CX, CY)] from Sp.q8 h16)]; rfl))))
  rcases Bool.eq_false_or_eq_true (Sp.addb [] DX DY AX AY BX B_Y) with h17 | h17
  ·refine aw_p 31 (
    .a 4 5 <| .p (qQ [5] (pQ AX AY BX B_Y CX CY DX DY oO oO oO oO oO oO oO oO oO oO oO oO oO oO oO oO h3 h11 h15 h17)) <| .e 3 6) ?_
   exact qF<|qB [.int .i64 1] (show (.int .i64 1 : Value) = (.int .i64 (Sp.qX AX AY BX B_Y CX CY DX DY)) from (congrArg (Value.int .i64) (show 1 = (Sp.qX AX AY BX B_Y CX CY DX DY) from by (unfold Sp.qX; rw [if_neg (show ¬ Sp.prp AX AY BX B_Y CX CY DX DY = true from by simp [Sp.prp, *])]; unfold Sp.shr; rw [(show Sp.addp [] AX AY CX CY DX DY = [] from Sp.q8 h3), (show Sp.addp [] BX B_Y CX CY DX DY = [] from Sp.q8 h11), (show Sp.addp [] CX CY AX AY BX B_Y = [] from Sp.q8 h15), (show Sp.addp [] DX DY AX AY BX B_Y = [(DX, DY)] from Sp.q9 h17)]; rfl))))
  refine aw_p 31 (
   .a 4 5 <| .p (qQ [] (pR AX AY BX B_Y CX CY DX DY oO oO oO oO oO oO oO oO oO oO oO oO oO oO oO oO h3 h11 h15 h17)) <| .e 3 5) ?_
  exact qF<|qB [.int .i64 0] (show (.int .i64 0 : Value) = (.int .i64 (Sp.qX AX AY BX B_Y CX CY DX DY)) from (congrArg (Value.int .i64) (show 0 = (Sp.qX AX AY BX B_Y CX CY DX DY) from by (unfold Sp.qX; rw [if_neg (show ¬ Sp.prp AX AY BX B_Y CX CY DX DY = true from by simp [Sp.prp, *])]; unfold Sp.shr; rw [(show Sp.addp [] AX AY CX CY DX DY = [] from Sp.q8 h3), (show Sp.addp [] BX B_Y CX CY DX DY = [] from Sp.q8 h11), (show Sp.addp [] CX CY AX AY BX B_Y = [] from Sp.q8 h15), (show Sp.addp [] DX DY AX AY BX B_Y = [] from Sp.q8 h17)]; rfl))))
 have h1p : ¬ ((((Sp.cmp (Sp.crs AX AY BX B_Y CX CY) 0) * (Sp.cmp (Sp.crs AX AY BX B_Y DX DY) 0)) < 0)) := pB h1
 refine aw_d 29 (
  .a 3 5 <| .p (qC (vY AX AY BX B_Y CX CY oO oO oO oO oO oO oO oO oO oO oO oO)) <| .a 3 5 <|
  .p (qC (vY AX AY BX B_Y DX DY oO oO oO oO oO oO oO oO oO oO oO oO)) <|
  .p (qJ ((Sp.cmp (Sp.crs AX AY BX B_Y CX CY) 0) * (Sp.cmp (Sp.crs AX AY BX B_Y DX DY) 0)) (wrap_i64 oO oO) .i64) <| .p (qN false (h1)) <| .e 12 5) ?_
 refine qP 59<|qH ?_
 rcases Bool.eq_false_or_eq_true (Sp.addb [] AX AY CX CY DX DY) with h18 | h18
 ·rcases Bool.eq_false_or_eq_true (Sp.addb [(AX, AY)] BX B_Y CX CY DX DY) with h19 | h19
  ·rcases Bool.eq_false_or_eq_true (Sp.addb [(AX, AY), (BX, B_Y)] CX CY AX AY BX B_Y) with h20 | h20
   ·rcases Bool.eq_false_or_eq_true (Sp.addb [(AX, AY), (BX, B_Y), (CX, CY)] DX DY AX AY BX B_Y) with h21 | h21
    ·refine aw_p 31 (
      .a 4 5 <| .p (qQ [5] (u9 AX AY BX B_Y CX CY DX DY oO oO oO oO oO oO oO oO oO oO oO oO oO oO oO oO h18 h19 h20 h21)) <| .e 3 6) ?_
     exact qF<|qB [.int .i64 2] (show (.int .i64 2 : Value) = (.int .i64 (Sp.qX AX AY BX B_Y CX CY DX DY)) from (congrArg (Value.int .i64) (show 2 = (Sp.qX AX AY BX B_Y CX CY DX DY) from by (unfold Sp.qX; rw [if_neg (show ¬ Sp.prp AX AY BX B_Y CX CY DX DY = true from by simp [Sp.prp, *])]; unfold Sp.shr; rw [(show Sp.addp [] AX AY CX CY DX DY = [(AX, AY)] from Sp.q9 h18), (show Sp.addp [(AX, AY)] BX B_Y CX CY DX DY = [(AX, AY), (BX, B_Y)] from Sp.q9 h19), (show Sp.addp [(AX, AY), (BX, B_Y)] CX CY AX AY BX B_Y = [(AX, AY), (BX, B_Y), (CX, CY)] from Sp.q9 h20), (show Sp.addp [(AX, AY), (BX, B_Y), (CX, CY)] DX DY AX AY BX B_Y = [(AX, AY), (BX, B_Y), (CX, CY), (DX, DY)] from Sp.q9 h21)]; rfl))))
    refine aw_p 31 (
     .a 4 5 <| .p (qQ [5] (pA AX AY BX B_Y CX CY DX DY oO oO oO oO oO oO oO oO oO oO oO oO oO oO oO oO h18 h19 h20 h21)) <| .e 3 6) ?_
    exact qF<|qB [.int .i64 2] (show (.int .i64 2 : Value) = (.int .i64 (Sp.qX AX AY BX B_Y CX CY DX DY)) from (congrArg (Value.int .i64) (show 2 = (Sp.qX AX AY BX B_Y CX CY DX DY) from by (unfold Sp.qX; rw [if_neg (show ¬ Sp.prp AX AY BX B_Y CX CY DX DY = true from by simp [Sp.prp, *])]; unfold Sp.shr; rw [(show Sp.addp [] AX AY CX CY DX DY = [(AX, AY)] from Sp.q9 h18), (show Sp.addp [(AX, AY)] BX B_Y CX CY DX DY = [(AX, AY), (BX, B_Y)] from Sp.q9 h19), (show Sp.addp [(AX, AY), (BX, B_Y)] CX CY AX AY BX B_Y = [(AX, AY), (BX, B_Y), (CX, CY)] from Sp.q9 h20), (show Sp.addp [(AX, AY), (BX, B_Y), (CX, CY)] DX DY AX AY BX B_Y = [(AX, AY), (BX, B_Y), (CX, CY)] from Sp.q8 h21)]; rfl))))
   rcases Bool.eq_false_or_eq_true (Sp.addb [(AX, AY), (BX, B_Y)] DX DY AX AY BX B_Y) with h22 | h22
   ·refine aw_p 31 (
     .a 4 5 <| .p (qQ [5] (pC AX AY BX B_Y CX CY DX DY oO oO oO oO oO oO oO oO oO oO oO oO oO oO oO oO h18 h19 h20 h22)) <| .e 3 6) ?_
    exact qF<|qB [.int .i64 2] (show (.int .i64 2 : Value) = (.int .i64 (Sp.qX AX AY BX B_Y CX CY DX DY)) from (congrArg (Value.int .i64) (show 2 = (Sp.qX AX AY BX B_Y CX CY DX DY) from by (unfold Sp.qX; rw [if_neg (show ¬ Sp.prp AX AY BX B_Y CX CY DX DY = true from by simp [Sp.prp, *])]; unfold Sp.shr; rw [(show Sp.addp [] AX AY CX CY DX DY = [(AX, AY)] from Sp.q9 h18), (show Sp.addp [(AX, AY)] BX B_Y CX CY DX DY = [(AX, AY), (BX, B_Y)] from Sp.q9 h19), (show Sp.addp [(AX, AY), (BX, B_Y)] CX CY AX AY BX B_Y = [(AX, AY), (BX, B_Y)] from Sp.q8 h20), (show Sp.addp [(AX, AY), (BX, B_Y)] DX DY AX AY BX B_Y = [(AX, AY), (BX, B_Y), (DX, DY)] from Sp.q9 h22)]; rfl))))
   refine aw_p 31 (
    .a 4 5 <| .p (qQ [5] (pD AX AY BX B_Y CX CY DX DY oO oO oO oO oO oO oO oO oO oO oO oO oO oO oO oO h18 h19 h20 h22)) <| .e 3 6) ?_
   exact qF<|qB [.int .i64 2] (show (.int .i64 2 : Value) = (.int .i64 (Sp.qX AX AY BX B_Y CX CY DX DY)) from (congrArg (Value.int .i64) (show 2 = (Sp.qX AX AY BX B_Y CX CY DX DY) from by (unfold Sp.qX; rw [if_neg (show ¬ Sp.prp AX AY BX B_Y CX CY DX DY = true from by simp [Sp.prp, *])]; unfold Sp.shr; rw [(show Sp.addp [] AX AY CX CY DX DY = [(AX, AY)] from Sp.q9 h18), (show Sp.addp [(AX, AY)] BX B_Y CX CY DX DY = [(AX, AY), (BX, B_Y)] from Sp.q9 h19), (show Sp.addp [(AX, AY), (BX, B_Y)] CX CY AX AY BX B_Y = [(AX, AY), (BX, B_Y)] from Sp.q8 h20), (show Sp.addp [(AX, AY), (BX, B_Y)] DX DY AX AY BX B_Y = [(AX, AY), (BX, B_Y)] from Sp.q8 h22)]; rfl))))
  rcases Bool.eq_false_or_eq_true (Sp.addb [(AX, AY)] CX CY AX AY BX B_Y) with h23 | h23
  ·rcases Bool.eq_false_or_eq_true (Sp.addb [(AX, AY), (CX, CY)] DX DY AX AY BX B_Y) with h24 | h24
   ·refine aw_p 31 (
     .a 4 5 <| .p (qQ [5] (pE AX AY BX B_Y CX CY DX DY oO oO oO oO oO oO oO oO oO oO oO oO oO oO oO oO h18 h19 h23 h24)) <| .e 3 6) ?_
    exact qF<|qB [.int .i64 2] (show (.int .i64 2 : Value) = (.int .i64 (Sp.qX AX AY BX B_Y CX CY DX DY)) from (congrArg (Value.int .i64) (show 2 = (Sp.qX AX AY BX B_Y CX CY DX DY) from by (unfold Sp.qX; rw [if_neg (show ¬ Sp.prp AX AY BX B_Y CX CY DX DY = true from by simp [Sp.prp, *])]; unfold Sp.shr; rw [(show Sp.addp [] AX AY CX CY DX DY = [(AX, AY)] from Sp.q9 h18), (show Sp.addp [(AX, AY)] BX B_Y CX CY DX DY = [(AX, AY)] from Sp.q8 h19), (show Sp.addp [(AX, AY)] CX CY AX AY BX B_Y = [(AX, AY), (CX, CY)] from Sp.q9 h23), (show Sp.addp [(AX, AY), (CX, CY)] DX DY AX AY BX B_Y = [(AX, AY), (CX, CY), (DX, DY)] from Sp.q9 h24)]; rfl))))
   refine aw_p 31 (
    .a 4 5 <| .p (qQ [5] (pF AX AY BX B_Y CX CY DX DY oO oO oO oO oO oO oO oO oO oO oO oO oO oO oO oO h18 h19 h23 h24)) <| .e 3 6) ?_
   exact qF<|qB [.int .i64 2] (show (.int .i64 2 : Value) = (.int .i64 (Sp.qX AX AY BX B_Y CX CY DX DY)) from (congrArg (Value.int .i64) (show 2 = (Sp.qX AX AY BX B_Y CX CY DX DY) from by (unfold Sp.qX; rw [if_neg (show ¬ Sp.prp AX AY BX B_Y CX CY DX DY = true from by simp [Sp.prp, *])]; unfold Sp.shr; rw [(show Sp.addp [] AX AY CX CY DX DY = [(AX, AY)] from Sp.q9 h18), (show Sp.addp [(AX, AY)] BX B_Y CX CY DX DY = [(AX, AY)] from Sp.q8 h19), (show Sp.addp [(AX, AY)] CX CY AX AY BX B_Y = [(AX, AY), (CX, CY)] from Sp.q9 h23), (show Sp.addp [(AX, AY), (CX, CY)] DX DY AX AY BX B_Y = [(AX, AY), (CX, CY)] from Sp.q8 h24)]; rfl))))
  rcases Bool.eq_false_or_eq_true (Sp.addb [(AX, AY)] DX DY AX AY BX B_Y) with h25 | h25
  ·refine aw_p 31 (
    .a 4 5 <| .p (qQ [5] (pG AX AY BX B_Y CX CY DX DY oO oO oO oO oO oO oO oO oO oO oO oO oO oO oO oO h18 h19 h23 h25)) <| .e 3 6) ?_
   exact qF<|qB [.int .i64 2] (show (.int .i64 2 : Value) = (.int .i64 (Sp.qX AX AY BX B_Y CX CY DX DY)) from (congrArg (Value.int .i64) (show 2 = (Sp.qX AX AY BX B_Y CX CY DX DY) from by (unfold Sp.qX; rw [if_neg (show ¬ Sp.prp AX AY BX B_Y CX CY DX DY = true from by simp [Sp.prp, *])]; unfold Sp.shr; rw [(show Sp.addp [] AX AY CX CY DX DY = [(AX, AY)] from Sp.q9 h18), (show Sp.addp [(AX, AY)] BX B_Y CX CY DX DY = [(AX, AY)] from Sp.q8 h19), (show Sp.addp [(AX, AY)] CX CY AX AY BX B_Y = [(AX, AY)] from Sp.q8 h23), (show Sp.addp [(AX, AY)] DX DY AX AY BX B_Y = [(AX, AY), (DX, DY)] from Sp.q9 h25)]; rfl))))
  refine aw_p 31 (
   .a 4 5 <| .p (qQ [5] (pH AX AY BX B_Y CX CY DX DY oO oO oO oO oO oO oO oO oO oO oO oO oO oO oO oO h18 h19 h23 h25)) <| .e 3 6) ?_
  exact qF<|qB [.int .i64 1] (show (.int .i64 1 : Value) = (.int .i64 (Sp.qX AX AY BX B_Y CX CY DX DY)) from (congrArg (Value.int .i64) (show 1 = (Sp.qX AX AY BX B_Y CX CY DX DY) from by (unfold Sp.qX; rw [if_neg (show ¬ Sp.prp AX AY BX B_Y CX CY DX DY = true from by simp [Sp.prp, *])]; unfold Sp.shr; rw [(show Sp.addp [] AX AY CX CY DX DY = [(AX, AY)] from Sp.q9 h18), (show Sp.addp [(AX, AY)] BX B_Y CX CY DX DY = [(AX, AY)] from Sp.q8 h19), (show Sp.addp [(AX, AY)] CX CY AX AY BX B_Y = [(AX, AY)] from Sp.q8 h23), (show Sp.addp [(AX, AY)] DX DY AX AY BX B_Y = [(AX, AY)] from Sp.q8 h25)]; rfl))))
 rcases Bool.eq_false_or_eq_true (Sp.addb [] BX B_Y CX CY DX DY) with h26 | h26
 ·rcases Bool.eq_false_or_eq_true (Sp.addb [(BX, B_Y)] CX CY AX AY BX B_Y) with h27 | h27
  ·rcases Bool.eq_false_or_eq_true (Sp.addb [(BX, B_Y), (CX, CY)] DX DY AX AY BX B_Y) with h28 | h28
   ·refine aw_p 31 (
     .a 4 5 <| .p (qQ [5] (pJ AX AY BX B_Y CX CY DX DY oO oO oO oO oO oO oO oO oO oO oO oO oO oO oO oO h18 h26 h27 h28)) <| .e 3 6) ?_
    exact qF<|qB [.int .i64 2] (show (.int .i64 2 : Value) = (.int .i64 (Sp.qX AX AY BX B_Y CX CY DX DY)) from (congrArg (Value.int .i64) (show 2 = (Sp.qX AX AY BX B_Y CX CY DX DY) from by (unfold Sp.qX; rw [if_neg (show ¬ Sp.prp AX AY BX B_Y CX CY DX DY = true from by simp [Sp.prp, *])]; unfold Sp.shr; rw [(show Sp.addp [] AX AY CX CY DX DY = [] from Sp.q8 h18), (show Sp.addp [] BX B_Y CX CY DX DY = [(BX, B_Y)] from Sp.q9 h26), (show Sp.addp [(BX, B_Y)] CX CY AX AY BX B_Y = [(BX, B_Y), (CX, CY)] from Sp.q9 h27), (show Sp.addp [(BX, B_Y), (CX, CY)] DX DY AX AY BX B_Y = [(BX, B_Y), (CX, CY), (DX, DY)] from Sp.q9 h28)]; rfl))))
   refine aw_p 31 (
    .a 4 5 <| .p (qQ [5] (pK AX AY BX B_Y CX CY DX DY oO oO oO oO oO oO oO oO oO oO oO oO oO oO oO oO h18 h26 h27 h28)) <| .e 3 6) ?_
   exact qF<|qB [.int .i64 2] (show (.int .i64 2 : Value) = (.int .i64 (Sp.qX AX AY BX B_Y CX CY DX DY)) from (congrArg (Value.int .i64) (show 2 = (Sp.qX AX AY BX B_Y CX CY DX DY) from by (unfold Sp.qX; rw [if_neg (show ¬ Sp.prp AX AY BX B_Y CX CY DX DY = true from by simp [Sp.prp, *])]; unfold Sp.shr; rw [(show Sp.addp [] AX AY CX CY DX DY = [] from Sp.q8 h18), (show Sp.addp [] BX B_Y CX CY DX DY = [(BX, B_Y)] from Sp.q9 h26), (show Sp.addp [(BX, B_Y)] CX CY AX AY BX B_Y = [(BX, B_Y), (CX, CY)] from Sp.q9 h27), (show Sp.addp [(BX, B_Y), (CX, CY)] DX DY AX AY BX B_Y = [(BX, B_Y), (CX, CY)] from Sp.q8 h28)]; rfl))))
  rcases Bool.eq_false_or_eq_true (Sp.addb [(BX, B_Y)] DX DY AX AY BX B_Y) with h29 | h29
  ·refine aw_p 31 (
    .a 4 5 <| .p (qQ [5] (pL AX AY BX B_Y CX CY DX DY oO oO oO oO oO oO oO oO oO oO oO oO oO oO oO oO h18 h26 h27 h29)) <| .e 3 6) ?_
   exact qF<|qB [.int .i64 2] (show (.int .i64 2 : Value) = (.int .i64 (Sp.qX AX AY BX B_Y CX CY DX DY)) from (congrArg (Value.int .i64) (show 2 = (Sp.qX AX AY BX B_Y CX CY DX DY) from by (unfold Sp.qX; rw [if_neg (show ¬ Sp.prp AX AY BX B_Y CX CY DX DY = true from by simp [Sp.prp, *])]; unfold Sp.shr; rw [(show Sp.addp [] AX AY CX CY DX DY = [] from Sp.q8 h18), (show Sp.addp [] BX B_Y CX CY DX DY = [(BX, B_Y)] from Sp.q9 h26), (show Sp.addp [(BX, B_Y)] CX CY AX AY BX B_Y = [(BX, B_Y)] from Sp.q8 h27), (show Sp.addp [(BX, B_Y)] DX DY AX AY BX B_Y = [(BX, B_Y), (DX, DY)] from Sp.q9 h29)]; rfl))))
  refine aw_p 31 (
   .a 4 5 <| .p (qQ [5] (pM AX AY BX B_Y CX CY DX DY oO oO oO oO oO oO oO oO oO oO oO oO oO oO oO oO h18 h26 h27 h29)) <| .e 3 6) ?_
  exact qF<|qB [.int .i64 1] (show (.int .i64 1 : Value) = (.int .i64 (Sp.qX AX AY BX B_Y CX CY DX DY)) from (congrArg (Value.int .i64) (show 1 = (Sp.qX AX AY BX B_Y CX CY DX DY) from by (unfold Sp.qX; rw [if_neg (show ¬ Sp.prp AX AY BX B_Y CX CY DX DY = true from by simp [Sp.prp, *])]; unfold Sp.shr; rw [(show Sp.addp [] AX AY CX CY DX DY = [] from Sp.q8 h18), (show Sp.addp [] BX B_Y CX CY DX DY = [(BX, B_Y)] from Sp.q9 h26), (show Sp.addp [(BX, B_Y)] CX CY AX AY BX B_Y = [(BX, B_Y)] from Sp.q8 h27), (show Sp.addp [(BX, B_Y)] DX DY AX AY BX B_Y = [(BX, B_Y)] from Sp.q8 h29)]; rfl))))
 rcases Bool.eq_false_or_eq_true (Sp.addb [] CX CY AX AY BX B_Y) with h30 | h30
 ·rcases Bool.eq_false_or_eq_true (Sp.addb [(CX, CY)] DX DY AX AY BX B_Y) with h31 | h31
  ·refine aw_p 31 (
    .a 4 5 <| .p (qQ [5] (pN AX AY BX B_Y CX CY DX DY oO oO oO oO oO oO oO oO oO oO oO oO oO oO oO oO h18 h26 h30 h31)) <| .e 3 6) ?_
   exact qF<|qB [.int .i64 2] (show (.int .i64 2 : Value) = (.int .i64 (Sp.qX AX AY BX B_Y CX CY DX DY)) from (congrArg (Value.int .i64) (show 2 = (Sp.qX AX AY BX B_Y CX CY DX DY) from by (unfold Sp.qX; rw [if_neg (show ¬ Sp.prp AX AY BX B_Y CX CY DX DY = true from by simp [Sp.prp, *])]; unfold Sp.shr; rw [(show Sp.addp [] AX AY CX CY DX DY = [] from Sp.q8 h18), (show Sp.addp [] BX B_Y CX CY DX DY = [] from Sp.q8 h26), (show Sp.addp [] CX CY AX AY BX B_Y = [(CX, CY)] from Sp.q9 h30), (show Sp.addp [(CX, CY)] DX DY AX AY BX B_Y = [(CX, CY), (DX, DY)] from Sp.q9 h31)]; rfl))))
  refine aw_p 31 (
   .a 4 5 <| .p (qQ [5] (pP AX AY BX B_Y CX CY DX DY oO oO oO oO oO oO oO oO oO oO oO oO oO oO oO oO h18 h26 h30 h31)) <| .e 3 6) ?_
  exact qF<|qB [.int .i64 1] (show (.int .i64 1 : Value) = (.int .i64 (Sp.qX AX AY BX B_Y CX CY DX DY)) from (congrArg (Value.int .i64) (show 1 = (Sp.qX AX AY BX B_Y CX CY DX DY) from by (unfold Sp.qX; rw [if_neg (show ¬ Sp.prp AX AY BX B_Y CX CY DX DY = true from by simp [Sp.prp, *])]; unfold Sp.shr; rw [(show Sp.addp [] AX AY CX CY DX DY = [] from Sp.q8 h18), (show Sp.addp [] BX B_Y CX CY DX DY = [] from Sp.q8 h26), (show Sp.addp [] CX CY AX AY BX B_Y = [(CX, CY)] from Sp.q9 h30), (show Sp.addp [(CX, CY)] DX DY AX AY BX B_Y = [(CX, CY)] from Sp.q8 h31)]; rfl))))
 rcases Bool.eq_false_or_eq_true (Sp.addb [] DX DY AX AY BX B_Y) with h32 | h32
 ·refine aw_p 31 (
   .a 4 5 <| .p (qQ [5] (pQ AX AY BX B_Y CX CY DX DY oO oO oO oO oO oO oO oO oO oO oO oO oO oO oO oO h18 h26 h30 h32)) <| .e 3 6) ?_
  exact qF<|qB [.int .i64 1] (show (.int .i64 1 : Value) = (.int .i64 (Sp.qX AX AY BX B_Y CX CY DX DY)) from (congrArg (Value.int .i64) (show 1 = (Sp.qX AX AY BX B_Y CX CY DX DY) from by (unfold Sp.qX; rw [if_neg (show ¬ Sp.prp AX AY BX B_Y CX CY DX DY = true from by simp [Sp.prp, *])]; unfold Sp.shr; rw [(show Sp.addp [] AX AY CX CY DX DY = [] from Sp.q8 h18), (show Sp.addp [] BX B_Y CX CY DX DY = [] from Sp.q8 h26), (show Sp.addp [] CX CY AX AY BX B_Y = [] from Sp.q8 h30), (show Sp.addp [] DX DY AX AY BX B_Y = [(DX, DY)] from Sp.q9 h32)]; rfl))))
 refine aw_p 31 (
  .a 4 5 <| .p (qQ [] (pR AX AY BX B_Y CX CY DX DY oO oO oO oO oO oO oO oO oO oO oO oO oO oO oO oO h18 h26 h30 h32)) <| .e 3 5) ?_
 exact qF<|qB [.int .i64 0] (show (.int .i64 0 : Value) = (.int .i64 (Sp.qX AX AY BX B_Y CX CY DX DY)) from (congrArg (Value.int .i64) (show 0 = (Sp.qX AX AY BX B_Y CX CY DX DY) from by (unfold Sp.qX; rw [if_neg (show ¬ Sp.prp AX AY BX B_Y CX CY DX DY = true from by simp [Sp.prp, *])]; unfold Sp.shr; rw [(show Sp.addp [] AX AY CX CY DX DY = [] from Sp.q8 h18), (show Sp.addp [] BX B_Y CX CY DX DY = [] from Sp.q8 h26), (show Sp.addp [] CX CY AX AY BX B_Y = [] from Sp.q8 h30), (show Sp.addp [] DX DY AX AY BX B_Y = [] from Sp.q8 h32)]; rfl))))
theorem pS (ax ay bx b_y cx cy dx dy : Int) (axl : -1048576 ≤ ax) (axu : ax ≤ 1048576) (ayl : -1048576 ≤ ay) (ayu : ay ≤ 1048576) (bxl : -1048576 ≤ bx) (bxu : bx ≤ 1048576) (b_yl : -1048576 ≤ b_y) (b_yu : b_y ≤ 1048576) (cxl : -1048576 ≤ cx) (cxu : cx ≤ 1048576) (cyl : -1048576 ≤ cy) (cyu : cy ≤ 1048576) (dxl : -1048576 ≤ dx) (dxu : dx ≤ 1048576) (dyl : -1048576 ≤ dy) (dyu : dy ≤ 1048576) : AC Try.prog 96 0 [.agg #[.int .i64 ax, .int .i64 ay], .agg #[.int .i64 bx, .int .i64 b_y], .agg #[.int .i64 cx, .int .i64 cy], .agg #[.int .i64 dx, .int .i64 dy]] [] (.int .i64 (Sp.qX ax ay bx b_y cx cy dx dy)) [] := by
  have q := @sK ax ay bx b_y cx cy dx dy
  simp only [Sp.jR axl axu, Sp.jR ayl ayu, Sp.jR bxl bxu, Sp.jR b_yl b_yu, Sp.jR cxl cxu, Sp.jR cyl cyu, Sp.jR dxl dxu, Sp.jR dyl dyu] at q
  exact q
end Go.Proofs.Ytadifmimefmcnaa.Am
