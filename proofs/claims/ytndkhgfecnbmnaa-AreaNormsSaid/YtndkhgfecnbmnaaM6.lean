import Derived.Test.YtndkhgfecnbmnaaProg
import Derived.Test.YtndkhgfecnbmnaaM2
import Derived.Test.YtndkhgfecnbmnaaM5
import Derived.Test.YtndkhgfecnbmnaaM3
import Derived.Test.YtndkhgfecnbmnaaM4
namespace Go.Proofs.Ytndkhgfecnbmnaa.Am
open Go Go.Proofs
set_option maxRecDepth 100000
set_option maxHeartbeats 4000000
set_option linter.unusedVariables false
set_option linter.unusedSimpArgs false
def rbOf (c : Code) : Code := match c with | .rangeFunc _ _ _ b => b | c => c
def rndOf (f : Func) (n : Nat) : Func := { f with body := some (rbOf (inOf (sb f n))) }
def anR1 (R1 : List (Int × Int)) : Nat → List (Int × Int)
  | _ => R1
def anU1 (R1 : List (Int × Int)) : Fin 1 → Value
  | ⟨0, _⟩ => .slice (some ⟨2, 0, none⟩) R1.length 0
def anL1 (R1 : List (Int × Int)) : List (Fin 1) → List (Nat × Blk)
  | [] => [(2, (pB R1)), (4, ⟨[.slice none 0 0], 25, true, 1⟩)]
  | [p1] => [(2, (pB R1)), (4, ⟨[sV 6 1], 25, true, 1⟩), (6, ⟨[sV 7 ((anR1 R1 p1.val).length)], 30, true, 1⟩), (7, (pB ((anR1 R1 p1.val).reverse)))]
  | _ => []
theorem round_1_0_0 (R1 : List (Int × Int)) (zR1 : 1 ≤ R1.length ∧ R1.length ≤ 200) (w0 : World) (W : Nat → Prop) (pin : Ren) :
    AR ⟨w0, W, Try.f5.ntmps, 6, pin, []⟩ Try.prog (sb (rndOf Try.f5 125) 1) (mkSt 6 [(9, sV 2 R1.length), (7, .pointer (some ⟨4, 0, none⟩))] [(2, (pB R1)), (4, ⟨[.slice none 0 0], 25, true, 1⟩)]) (fun S' => Weak ⟨w0, W, Try.f5.ntmps, 6, pin, []⟩ S' (mkSt 6 [] [(2, (pB R1)), (4, ⟨[sV 6 1], 25, true, 1⟩), (6, ⟨[sV 7 R1.length], 30, true, 1⟩), (7, (pB (R1.reverse)))])) := by
  refine ar_bl 1 3 ?_
  refine ar_p 7 (
    .a 1 6 <| .p (cF #[.tmp 22] #[30] [sV 2 R1.length] 1 [2, 6] [(2, (pB R1))] [(2, (pB R1)), (6, (pB R1))] (sV 6 R1.length) (clone_own R1 (by omega) (by omega)) (.cons rS .nil) ⟨rfl, bP, trivial⟩ ⟨rfl, bP, rfl, bP, trivial⟩ rS) <| .a 1 7 <| .nil _ _) ?_
  refine ar_p 15 (
    .a 1 7 <| .p (cF #[.tmp 24] #[30] [sV 6 R1.length] 0 [6] [(6, (pB R1))] [(6, (pB R1.reverse))] (.tuple #[]) (rev_ok R1 (by omega) (by omega)) (.cons rS .nil) ⟨rfl, bP, trivial⟩ ⟨rfl, bP, trivial⟩ rF) <| .nil _ _) ?_
  refine ar_p1 (
    .a 3 7 <| .p (does_ap 8) <| .a 1 9 <| .nil _ _) ?_
  exact weak_rr [(6, 8), (7, 6)] [] [(2, (pB R1)), (4, ⟨[sV 8 1], 25, true, 1⟩), (8, ⟨[sV 6 R1.length], 30, true, 1⟩), (6, (pB R1.reverse))] [] [(2, (pB R1)), (4, ⟨[sV 6 1], 25, true, 1⟩), (6, ⟨[sV 7 R1.length], 30, true, 1⟩), (7, (pB (R1.reverse)))] trivial ⟨rfl, ⟨rfl, rfl, rfl, (.flats (flats_pair _))⟩, rfl, ⟨rfl, rfl, rfl, (.cons (rK rfl) .nil)⟩, rfl, ⟨rfl, rfl, rfl, (.cons (rK rfl) .nil)⟩, rfl, ⟨rfl, rfl, rfl, (.flats (flats_pair _))⟩, trivial⟩
theorem rounds_1 (R1 : List (Int × Int)) (zR1 : 1 ≤ R1.length ∧ R1.length ≤ 200) (w0 : World) (W : Nat → Prop) (pin : Ren) (pre : List (Fin 1)) (x : Fin 1) (h : pre.length < 1) :
    AR ⟨w0, W, Try.f5.ntmps, 6, pin, []⟩ Try.prog (sb (rndOf Try.f5 125) 1) (mkSt 6 [(9, anU1 R1 x), (7, .pointer (some ⟨4, 0, none⟩))] (anL1 R1 pre)) (fun S' => Weak ⟨w0, W, Try.f5.ntmps, 6, pin, []⟩ S' (mkSt 6 [] (anL1 R1 (pre ++ [x])))) :=
  match pre, x, h with
  | [], ⟨0, _⟩, _ => round_1_0_0 R1  zR1 w0 W pin
  | _ :: _, _, h => absurd h (by simp)
def anR2 (R1 R2 : List (Int × Int)) : Nat → List (Int × Int)
  | 0 => R1
  | _ => R2
def anU2 (R1 R2 : List (Int × Int)) : Fin 2 → Value
  | ⟨0, _⟩ => .slice (some ⟨2, 0, none⟩) R1.length 0
  | ⟨1, _⟩ => .slice (some ⟨3, 0, none⟩) R2.length 0
def anL2 (R1 R2 : List (Int × Int)) : List (Fin 2) → List (Nat × Blk)
  | [] => [(2, (pB R1)), (3, (pB R2)), (5, ⟨[.slice none 0 0], 25, true, 1⟩)]
  | [p1] => [(2, (pB R1)), (3, (pB R2)), (5, ⟨[sV 7 1], 25, true, 1⟩), (7, ⟨[sV 8 ((anR2 R1 R2 p1.val).length)], 30, true, 1⟩), (8, (pB ((anR2 R1 R2 p1.val).reverse)))]
  | [p1, p2] => [(2, (pB R1)), (3, (pB R2)), (5, ⟨[sV 7 2], 25, true, 1⟩), (7, ⟨[sV 8 ((anR2 R1 R2 p1.val).length), sV 9 ((anR2 R1 R2 p2.val).length)], 30, true, 1⟩), (8, (pB ((anR2 R1 R2 p1.val).reverse))), (9, (pB ((anR2 R1 R2 p2.val).reverse)))]
  | _ => []
theorem round_2_0_0 (R1 R2 : List (Int × Int)) (zR1 : 1 ≤ R1.length ∧ R1.length ≤ 200) (zR2 : 1 ≤ R2.length ∧ R2.length ≤ 200) (w0 : World) (W : Nat → Prop) (pin : Ren) :
    AR ⟨w0, W, Try.f5.ntmps, 7, pin, []⟩ Try.prog (sb (rndOf Try.f5 125) 1) (mkSt 7 [(9, sV 2 R1.length), (7, .pointer (some ⟨5, 0, none⟩))] [(2, (pB R1)), (3, (pB R2)), (5, ⟨[.slice none 0 0], 25, true, 1⟩)]) (fun S' => Weak ⟨w0, W, Try.f5.ntmps, 7, pin, []⟩ S' (mkSt 7 [] [(2, (pB R1)), (3, (pB R2)), (5, ⟨[sV 7 1], 25, true, 1⟩), (7, ⟨[sV 8 R1.length], 30, true, 1⟩), (8, (pB (R1.reverse)))])) := by
  refine ar_bl 1 3 ?_
  refine ar_p 7 (
    .a 1 7 <| .p (cF #[.tmp 22] #[30] [sV 2 R1.length] 1 [2, 7] [(2, (pB R1))] [(2, (pB R1)), (7, (pB R1))] (sV 7 R1.length) (clone_own R1 (by omega) (by omega)) (.cons rS .nil) ⟨rfl, bP, trivial⟩ ⟨rfl, bP, rfl, bP, trivial⟩ rS) <| .a 1 8 <| .nil _ _) ?_
  refine ar_p 15 (
    .a 1 8 <| .p (cF #[.tmp 24] #[30] [sV 7 R1.length] 0 [7] [(7, (pB R1))] [(7, (pB R1.reverse))] (.tuple #[]) (rev_ok R1 (by omega) (by omega)) (.cons rS .nil) ⟨rfl, bP, trivial⟩ ⟨rfl, bP, trivial⟩ rF) <| .nil _ _) ?_
  refine ar_p1 (
    .a 3 8 <| .p (does_ap 9) <| .a 1 10 <| .nil _ _) ?_
  exact weak_rr [(7, 9), (8, 7)] [] [(2, (pB R1)), (3, (pB R2)), (5, ⟨[sV 9 1], 25, true, 1⟩), (9, ⟨[sV 7 R1.length], 30, true, 1⟩), (7, (pB R1.reverse))] [] [(2, (pB R1)), (3, (pB R2)), (5, ⟨[sV 7 1], 25, true, 1⟩), (7, ⟨[sV 8 R1.length], 30, true, 1⟩), (8, (pB (R1.reverse)))] trivial ⟨rfl, ⟨rfl, rfl, rfl, (.flats (flats_pair _))⟩, rfl, ⟨rfl, rfl, rfl, (.flats (flats_pair _))⟩, rfl, ⟨rfl, rfl, rfl, (.cons (rK rfl) .nil)⟩, rfl, ⟨rfl, rfl, rfl, (.cons (rK rfl) .nil)⟩, rfl, ⟨rfl, rfl, rfl, (.flats (flats_pair _))⟩, trivial⟩
theorem round_2_0_1 (R1 R2 : List (Int × Int)) (zR1 : 1 ≤ R1.length ∧ R1.length ≤ 200) (zR2 : 1 ≤ R2.length ∧ R2.length ≤ 200) (w0 : World) (W : Nat → Prop) (pin : Ren) :
    AR ⟨w0, W, Try.f5.ntmps, 7, pin, []⟩ Try.prog (sb (rndOf Try.f5 125) 1) (mkSt 7 [(9, sV 3 R2.length), (7, .pointer (some ⟨5, 0, none⟩))] [(2, (pB R1)), (3, (pB R2)), (5, ⟨[.slice none 0 0], 25, true, 1⟩)]) (fun S' => Weak ⟨w0, W, Try.f5.ntmps, 7, pin, []⟩ S' (mkSt 7 [] [(2, (pB R1)), (3, (pB R2)), (5, ⟨[sV 7 1], 25, true, 1⟩), (7, ⟨[sV 8 R2.length], 30, true, 1⟩), (8, (pB (R2.reverse)))])) := by
  refine ar_bl 1 3 ?_
  refine ar_p 7 (
    .a 1 7 <| .p (cF #[.tmp 22] #[30] [sV 3 R2.length] 1 [3, 7] [(3, (pB R2))] [(3, (pB R2)), (7, (pB R2))] (sV 7 R2.length) (clone_own R2 (by omega) (by omega)) (.cons rS .nil) ⟨rfl, bP, trivial⟩ ⟨rfl, bP, rfl, bP, trivial⟩ rS) <| .a 1 8 <| .nil _ _) ?_
  refine ar_p 15 (
    .a 1 8 <| .p (cF #[.tmp 24] #[30] [sV 7 R2.length] 0 [7] [(7, (pB R2))] [(7, (pB R2.reverse))] (.tuple #[]) (rev_ok R2 (by omega) (by omega)) (.cons rS .nil) ⟨rfl, bP, trivial⟩ ⟨rfl, bP, trivial⟩ rF) <| .nil _ _) ?_
  refine ar_p1 (
    .a 3 8 <| .p (does_ap 9) <| .a 1 10 <| .nil _ _) ?_
  exact weak_rr [(7, 9), (8, 7)] [] [(2, (pB R1)), (3, (pB R2)), (5, ⟨[sV 9 1], 25, true, 1⟩), (9, ⟨[sV 7 R2.length], 30, true, 1⟩), (7, (pB R2.reverse))] [] [(2, (pB R1)), (3, (pB R2)), (5, ⟨[sV 7 1], 25, true, 1⟩), (7, ⟨[sV 8 R2.length], 30, true, 1⟩), (8, (pB (R2.reverse)))] trivial ⟨rfl, ⟨rfl, rfl, rfl, (.flats (flats_pair _))⟩, rfl, ⟨rfl, rfl, rfl, (.flats (flats_pair _))⟩, rfl, ⟨rfl, rfl, rfl, (.cons (rK rfl) .nil)⟩, rfl, ⟨rfl, rfl, rfl, (.cons (rK rfl) .nil)⟩, rfl, ⟨rfl, rfl, rfl, (.flats (flats_pair _))⟩, trivial⟩
theorem round_2_1_0 (R1 R2 P1 : List (Int × Int)) (zR1 : 1 ≤ R1.length ∧ R1.length ≤ 200) (zR2 : 1 ≤ R2.length ∧ R2.length ≤ 200) (w0 : World) (W : Nat → Prop) (pin : Ren) :
    AR ⟨w0, W, Try.f5.ntmps, 7, pin, []⟩ Try.prog (sb (rndOf Try.f5 125) 1) (mkSt 7 [(9, sV 2 R1.length), (7, .pointer (some ⟨5, 0, none⟩))] [(2, (pB R1)), (3, (pB R2)), (5, ⟨[sV 7 1], 25, true, 1⟩), (7, ⟨[sV 8 P1.length], 30, true, 1⟩), (8, (pB (P1.reverse)))]) (fun S' => Weak ⟨w0, W, Try.f5.ntmps, 7, pin, []⟩ S' (mkSt 7 [] [(2, (pB R1)), (3, (pB R2)), (5, ⟨[sV 7 2], 25, true, 1⟩), (7, ⟨[sV 8 P1.length, sV 9 R1.length], 30, true, 1⟩), (8, (pB (P1.reverse))), (9, (pB (R1.reverse)))])) := by
  refine ar_bl 1 3 ?_
  refine ar_p 7 (
    .a 1 9 <| .p (cF #[.tmp 22] #[30] [sV 2 R1.length] 1 [2, 9] [(2, (pB R1))] [(2, (pB R1)), (9, (pB R1))] (sV 9 R1.length) (clone_own R1 (by omega) (by omega)) (.cons rS .nil) ⟨rfl, bP, trivial⟩ ⟨rfl, bP, rfl, bP, trivial⟩ rS) <| .a 1 10 <| .nil _ _) ?_
  refine ar_p 15 (
    .a 1 10 <| .p (cF #[.tmp 24] #[30] [sV 9 R1.length] 0 [9] [(9, (pB R1))] [(9, (pB R1.reverse))] (.tuple #[]) (rev_ok R1 (by omega) (by omega)) (.cons rS .nil) ⟨rfl, bP, trivial⟩ ⟨rfl, bP, trivial⟩ rF) <| .nil _ _) ?_
  refine ar_p1 (
    .a 3 10 <| .p (does_ap 11) <| .a 1 12 <| .nil _ _) ?_
  exact weak_rr [(7, 11)] [] [(2, (pB R1)), (3, (pB R2)), (5, ⟨[sV 11 2], 25, true, 1⟩), (11, ⟨[sV 8 P1.length, sV 9 R1.length], 30, true, 1⟩), (8, (pB (P1.reverse))), (9, (pB R1.reverse))] [] [(2, (pB R1)), (3, (pB R2)), (5, ⟨[sV 7 2], 25, true, 1⟩), (7, ⟨[sV 8 P1.length, sV 9 R1.length], 30, true, 1⟩), (8, (pB (P1.reverse))), (9, (pB (R1.reverse)))] trivial ⟨rfl, ⟨rfl, rfl, rfl, (.flats (flats_pair _))⟩, rfl, ⟨rfl, rfl, rfl, (.flats (flats_pair _))⟩, rfl, ⟨rfl, rfl, rfl, (.cons (rK rfl) .nil)⟩, rfl, ⟨rfl, rfl, rfl, (.cons (rK rfl) (.cons (rK rfl) .nil))⟩, rfl, ⟨rfl, rfl, rfl, (.flats (flats_pair _))⟩, rfl, ⟨rfl, rfl, rfl, (.flats (flats_pair _))⟩, trivial⟩
theorem round_2_1_1 (R1 R2 P1 : List (Int × Int)) (zR1 : 1 ≤ R1.length ∧ R1.length ≤ 200) (zR2 : 1 ≤ R2.length ∧ R2.length ≤ 200) (w0 : World) (W : Nat → Prop) (pin : Ren) :
    AR ⟨w0, W, Try.f5.ntmps, 7, pin, []⟩ Try.prog (sb (rndOf Try.f5 125) 1) (mkSt 7 [(9, sV 3 R2.length), (7, .pointer (some ⟨5, 0, none⟩))] [(2, (pB R1)), (3, (pB R2)), (5, ⟨[sV 7 1], 25, true, 1⟩), (7, ⟨[sV 8 P1.length], 30, true, 1⟩), (8, (pB (P1.reverse)))]) (fun S' => Weak ⟨w0, W, Try.f5.ntmps, 7, pin, []⟩ S' (mkSt 7 [] [(2, (pB R1)), (3, (pB R2)), (5, ⟨[sV 7 2], 25, true, 1⟩), (7, ⟨[sV 8 P1.length, sV 9 R2.length], 30, true, 1⟩), (8, (pB (P1.reverse))), (9, (pB (R2.reverse)))])) := by
  refine ar_bl 1 3 ?_
  refine ar_p 7 (
    .a 1 9 <| .p (cF #[.tmp 22] #[30] [sV 3 R2.length] 1 [3, 9] [(3, (pB R2))] [(3, (pB R2)), (9, (pB R2))] (sV 9 R2.length) (clone_own R2 (by omega) (by omega)) (.cons rS .nil) ⟨rfl, bP, trivial⟩ ⟨rfl, bP, rfl, bP, trivial⟩ rS) <| .a 1 10 <| .nil _ _) ?_
  refine ar_p 15 (
    .a 1 10 <| .p (cF #[.tmp 24] #[30] [sV 9 R2.length] 0 [9] [(9, (pB R2))] [(9, (pB R2.reverse))] (.tuple #[]) (rev_ok R2 (by omega) (by omega)) (.cons rS .nil) ⟨rfl, bP, trivial⟩ ⟨rfl, bP, trivial⟩ rF) <| .nil _ _) ?_
  refine ar_p1 (
    .a 3 10 <| .p (does_ap 11) <| .a 1 12 <| .nil _ _) ?_
  exact weak_rr [(7, 11)] [] [(2, (pB R1)), (3, (pB R2)), (5, ⟨[sV 11 2], 25, true, 1⟩), (11, ⟨[sV 8 P1.length, sV 9 R2.length], 30, true, 1⟩), (8, (pB (P1.reverse))), (9, (pB R2.reverse))] [] [(2, (pB R1)), (3, (pB R2)), (5, ⟨[sV 7 2], 25, true, 1⟩), (7, ⟨[sV 8 P1.length, sV 9 R2.length], 30, true, 1⟩), (8, (pB (P1.reverse))), (9, (pB (R2.reverse)))] trivial ⟨rfl, ⟨rfl, rfl, rfl, (.flats (flats_pair _))⟩, rfl, ⟨rfl, rfl, rfl, (.flats (flats_pair _))⟩, rfl, ⟨rfl, rfl, rfl, (.cons (rK rfl) .nil)⟩, rfl, ⟨rfl, rfl, rfl, (.cons (rK rfl) (.cons (rK rfl) .nil))⟩, rfl, ⟨rfl, rfl, rfl, (.flats (flats_pair _))⟩, rfl, ⟨rfl, rfl, rfl, (.flats (flats_pair _))⟩, trivial⟩
theorem rounds_2 (R1 R2 : List (Int × Int)) (zR1 : 1 ≤ R1.length ∧ R1.length ≤ 200) (zR2 : 1 ≤ R2.length ∧ R2.length ≤ 200) (w0 : World) (W : Nat → Prop) (pin : Ren) (pre : List (Fin 2)) (x : Fin 2) (h : pre.length < 2) :
    AR ⟨w0, W, Try.f5.ntmps, 7, pin, []⟩ Try.prog (sb (rndOf Try.f5 125) 1) (mkSt 7 [(9, anU2 R1 R2 x), (7, .pointer (some ⟨5, 0, none⟩))] (anL2 R1 R2 pre)) (fun S' => Weak ⟨w0, W, Try.f5.ntmps, 7, pin, []⟩ S' (mkSt 7 [] (anL2 R1 R2 (pre ++ [x])))) :=
  match pre, x, h with
  | [], ⟨0, _⟩, _ => round_2_0_0 R1 R2  zR1 zR2 w0 W pin
  | [], ⟨1, _⟩, _ => round_2_0_1 R1 R2  zR1 zR2 w0 W pin
  | [p1], ⟨0, _⟩, _ => round_2_1_0 R1 R2 (anR2 R1 R2 p1.val) zR1 zR2 w0 W pin
  | [p1], ⟨1, _⟩, _ => round_2_1_1 R1 R2 (anR2 R1 R2 p1.val) zR1 zR2 w0 W pin
  | _ :: _ :: _, _, h => absurd h (by simp)
def anR3 (R1 R2 R3 : List (Int × Int)) : Nat → List (Int × Int)
  | 0 => R1
  | 1 => R2
  | _ => R3
def anU3 (R1 R2 R3 : List (Int × Int)) : Fin 3 → Value
  | ⟨0, _⟩ => .slice (some ⟨2, 0, none⟩) R1.length 0
  | ⟨1, _⟩ => .slice (some ⟨3, 0, none⟩) R2.length 0
  | ⟨2, _⟩ => .slice (some ⟨4, 0, none⟩) R3.length 0
def anL3 (R1 R2 R3 : List (Int × Int)) : List (Fin 3) → List (Nat × Blk)
  | [] => [(2, (pB R1)), (3, (pB R2)), (4, (pB R3)), (6, ⟨[.slice none 0 0], 25, true, 1⟩)]
  | [p1] => [(2, (pB R1)), (3, (pB R2)), (4, (pB R3)), (6, ⟨[sV 8 1], 25, true, 1⟩), (8, ⟨[sV 9 ((anR3 R1 R2 R3 p1.val).length)], 30, true, 1⟩), (9, (pB ((anR3 R1 R2 R3 p1.val).reverse)))]
  | [p1, p2] => [(2, (pB R1)), (3, (pB R2)), (4, (pB R3)), (6, ⟨[sV 8 2], 25, true, 1⟩), (8, ⟨[sV 9 ((anR3 R1 R2 R3 p1.val).length), sV 10 ((anR3 R1 R2 R3 p2.val).length)], 30, true, 1⟩), (9, (pB ((anR3 R1 R2 R3 p1.val).reverse))), (10, (pB ((anR3 R1 R2 R3 p2.val).reverse)))]
  | [p1, p2, p3] => [(2, (pB R1)), (3, (pB R2)), (4, (pB R3)), (6, ⟨[sV 8 3], 25, true, 1⟩), (8, ⟨[sV 9 ((anR3 R1 R2 R3 p1.val).length), sV 10 ((anR3 R1 R2 R3 p2.val).length), sV 11 ((anR3 R1 R2 R3 p3.val).length)], 30, true, 1⟩), (9, (pB ((anR3 R1 R2 R3 p1.val).reverse))), (10, (pB ((anR3 R1 R2 R3 p2.val).reverse))), (11, (pB ((anR3 R1 R2 R3 p3.val).reverse)))]
  | _ => []
theorem round_3_0_0 (R1 R2 R3 : List (Int × Int)) (zR1 : 1 ≤ R1.length ∧ R1.length ≤ 200) (zR2 : 1 ≤ R2.length ∧ R2.length ≤ 200) (zR3 : 1 ≤ R3.length ∧ R3.length ≤ 200) (w0 : World) (W : Nat → Prop) (pin : Ren) :
    AR ⟨w0, W, Try.f5.ntmps, 8, pin, []⟩ Try.prog (sb (rndOf Try.f5 125) 1) (mkSt 8 [(9, sV 2 R1.length), (7, .pointer (some ⟨6, 0, none⟩))] [(2, (pB R1)), (3, (pB R2)), (4, (pB R3)), (6, ⟨[.slice none 0 0], 25, true, 1⟩)]) (fun S' => Weak ⟨w0, W, Try.f5.ntmps, 8, pin, []⟩ S' (mkSt 8 [] [(2, (pB R1)), (3, (pB R2)), (4, (pB R3)), (6, ⟨[sV 8 1], 25, true, 1⟩), (8, ⟨[sV 9 R1.length], 30, true, 1⟩), (9, (pB (R1.reverse)))])) := by
  refine ar_bl 1 3 ?_
  refine ar_p 7 (
    .a 1 8 <| .p (cF #[.tmp 22] #[30] [sV 2 R1.length] 1 [2, 8] [(2, (pB R1))] [(2, (pB R1)), (8, (pB R1))] (sV 8 R1.length) (clone_own R1 (by omega) (by omega)) (.cons rS .nil) ⟨rfl, bP, trivial⟩ ⟨rfl, bP, rfl, bP, trivial⟩ rS) <| .a 1 9 <| .nil _ _) ?_
  refine ar_p 15 (
    .a 1 9 <| .p (cF #[.tmp 24] #[30] [sV 8 R1.length] 0 [8] [(8, (pB R1))] [(8, (pB R1.reverse))] (.tuple #[]) (rev_ok R1 (by omega) (by omega)) (.cons rS .nil) ⟨rfl, bP, trivial⟩ ⟨rfl, bP, trivial⟩ rF) <| .nil _ _) ?_
  refine ar_p1 (
    .a 3 9 <| .p (does_ap 10) <| .a 1 11 <| .nil _ _) ?_
  exact weak_rr [(8, 10), (9, 8)] [] [(2, (pB R1)), (3, (pB R2)), (4, (pB R3)), (6, ⟨[sV 10 1], 25, true, 1⟩), (10, ⟨[sV 8 R1.length], 30, true, 1⟩), (8, (pB R1.reverse))] [] [(2, (pB R1)), (3, (pB R2)), (4, (pB R3)), (6, ⟨[sV 8 1], 25, true, 1⟩), (8, ⟨[sV 9 R1.length], 30, true, 1⟩), (9, (pB (R1.reverse)))] trivial ⟨rfl, ⟨rfl, rfl, rfl, (.flats (flats_pair _))⟩, rfl, ⟨rfl, rfl, rfl, (.flats (flats_pair _))⟩, rfl, ⟨rfl, rfl, rfl, (.flats (flats_pair _))⟩, rfl, ⟨rfl, rfl, rfl, (.cons (rK rfl) .nil)⟩, rfl, ⟨rfl, rfl, rfl, (.cons (rK rfl) .nil)⟩, rfl, ⟨rfl, rfl, rfl, (.flats (flats_pair _))⟩, trivial⟩
theorem round_3_0_1 (R1 R2 R3 : List (Int × Int)) (zR1 : 1 ≤ R1.length ∧ R1.length ≤ 200) (zR2 : 1 ≤ R2.length ∧ R2.length ≤ 200) (zR3 : 1 ≤ R3.length ∧ R3.length ≤ 200) (w0 : World) (W : Nat → Prop) (pin : Ren) :
    AR ⟨w0, W, Try.f5.ntmps, 8, pin, []⟩ Try.prog (sb (rndOf Try.f5 125) 1) (mkSt 8 [(9, sV 3 R2.length), (7, .pointer (some ⟨6, 0, none⟩))] [(2, (pB R1)), (3, (pB R2)), (4, (pB R3)), (6, ⟨[.slice none 0 0], 25, true, 1⟩)]) (fun S' => Weak ⟨w0, W, Try.f5.ntmps, 8, pin, []⟩ S' (mkSt 8 [] [(2, (pB R1)), (3, (pB R2)), (4, (pB R3)), (6, ⟨[sV 8 1], 25, true, 1⟩), (8, ⟨[sV 9 R2.length], 30, true, 1⟩), (9, (pB (R2.reverse)))])) := by
  refine ar_bl 1 3 ?_
  refine ar_p 7 (
    .a 1 8 <| .p (cF #[.tmp 22] #[30] [sV 3 R2.length] 1 [3, 8] [(3, (pB R2))] [(3, (pB R2)), (8, (pB R2))] (sV 8 R2.length) (clone_own R2 (by omega) (by omega)) (.cons rS .nil) ⟨rfl, bP, trivial⟩ ⟨rfl, bP, rfl, bP, trivial⟩ rS) <| .a 1 9 <| .nil _ _) ?_
  refine ar_p 15 (
    .a 1 9 <| .p (cF #[.tmp 24] #[30] [sV 8 R2.length] 0 [8] [(8, (pB R2))] [(8, (pB R2.reverse))] (.tuple #[]) (rev_ok R2 (by omega) (by omega)) (.cons rS .nil) ⟨rfl, bP, trivial⟩ ⟨rfl, bP, trivial⟩ rF) <| .nil _ _) ?_
  refine ar_p1 (
    .a 3 9 <| .p (does_ap 10) <| .a 1 11 <| .nil _ _) ?_
  exact weak_rr [(8, 10), (9, 8)] [] [(2, (pB R1)), (3, (pB R2)), (4, (pB R3)), (6, ⟨[sV 10 1], 25, true, 1⟩), (10, ⟨[sV 8 R2.length], 30, true, 1⟩), (8, (pB R2.reverse))] [] [(2, (pB R1)), (3, (pB R2)), (4, (pB R3)), (6, ⟨[sV 8 1], 25, true, 1⟩), (8, ⟨[sV 9 R2.length], 30, true, 1⟩), (9, (pB (R2.reverse)))] trivial ⟨rfl, ⟨rfl, rfl, rfl, (.flats (flats_pair _))⟩, rfl, ⟨rfl, rfl, rfl, (.flats (flats_pair _))⟩, rfl, ⟨rfl, rfl, rfl, (.flats (flats_pair _))⟩, rfl, ⟨rfl, rfl, rfl, (.cons (rK rfl) .nil)⟩, rfl, ⟨rfl, rfl, rfl, (.cons (rK rfl) .nil)⟩, rfl, ⟨rfl, rfl, rfl, (.flats (flats_pair _))⟩, trivial⟩
theorem round_3_0_2 (R1 R2 R3 : List (Int × Int)) (zR1 : 1 ≤ R1.length ∧ R1.length ≤ 200) (zR2 : 1 ≤ R2.length ∧ R2.length ≤ 200) (zR3 : 1 ≤ R3.length ∧ R3.length ≤ 200) (w0 : World) (W : Nat → Prop) (pin : Ren) :
    AR ⟨w0, W, Try.f5.ntmps, 8, pin, []⟩ Try.prog (sb (rndOf Try.f5 125) 1) (mkSt 8 [(9, sV 4 R3.length), (7, .pointer (some ⟨6, 0, none⟩))] [(2, (pB R1)), (3, (pB R2)), (4, (pB R3)), (6, ⟨[.slice none 0 0], 25, true, 1⟩)]) (fun S' => Weak ⟨w0, W, Try.f5.ntmps, 8, pin, []⟩ S' (mkSt 8 [] [(2, (pB R1)), (3, (pB R2)), (4, (pB R3)), (6, ⟨[sV 8 1], 25, true, 1⟩), (8, ⟨[sV 9 R3.length], 30, true, 1⟩), (9, (pB (R3.reverse)))])) := by
  refine ar_bl 1 3 ?_
  refine ar_p 7 (
    .a 1 8 <| .p (cF #[.tmp 22] #[30] [sV 4 R3.length] 1 [4, 8] [(4, (pB R3))] [(4, (pB R3)), (8, (pB R3))] (sV 8 R3.length) (clone_own R3 (by omega) (by omega)) (.cons rS .nil) ⟨rfl, bP, trivial⟩ ⟨rfl, bP, rfl, bP, trivial⟩ rS) <| .a 1 9 <| .nil _ _) ?_
  refine ar_p 15 (
    .a 1 9 <| .p (cF #[.tmp 24] #[30] [sV 8 R3.length] 0 [8] [(8, (pB R3))] [(8, (pB R3.reverse))] (.tuple #[]) (rev_ok R3 (by omega) (by omega)) (.cons rS .nil) ⟨rfl, bP, trivial⟩ ⟨rfl, bP, trivial⟩ rF) <| .nil _ _) ?_
  refine ar_p1 (
    .a 3 9 <| .p (does_ap 10) <| .a 1 11 <| .nil _ _) ?_
  exact weak_rr [(8, 10), (9, 8)] [] [(2, (pB R1)), (3, (pB R2)), (4, (pB R3)), (6, ⟨[sV 10 1], 25, true, 1⟩), (10, ⟨[sV 8 R3.length], 30, true, 1⟩), (8, (pB R3.reverse))] [] [(2, (pB R1)), (3, (pB R2)), (4, (pB R3)), (6, ⟨[sV 8 1], 25, true, 1⟩), (8, ⟨[sV 9 R3.length], 30, true, 1⟩), (9, (pB (R3.reverse)))] trivial ⟨rfl, ⟨rfl, rfl, rfl, (.flats (flats_pair _))⟩, rfl, ⟨rfl, rfl, rfl, (.flats (flats_pair _))⟩, rfl, ⟨rfl, rfl, rfl, (.flats (flats_pair _))⟩, rfl, ⟨rfl, rfl, rfl, (.cons (rK rfl) .nil)⟩, rfl, ⟨rfl, rfl, rfl, (.cons (rK rfl) .nil)⟩, rfl, ⟨rfl, rfl, rfl, (.flats (flats_pair _))⟩, trivial⟩
theorem round_3_1_0 (R1 R2 R3 P1 : List (Int × Int)) (zR1 : 1 ≤ R1.length ∧ R1.length ≤ 200) (zR2 : 1 ≤ R2.length ∧ R2.length ≤ 200) (zR3 : 1 ≤ R3.length ∧ R3.length ≤ 200) (w0 : World) (W : Nat → Prop) (pin : Ren) :
    AR ⟨w0, W, Try.f5.ntmps, 8, pin, []⟩ Try.prog (sb (rndOf Try.f5 125) 1) (mkSt 8 [(9, sV 2 R1.length), (7, .pointer (some ⟨6, 0, none⟩))] [(2, (pB R1)), (3, (pB R2)), (4, (pB R3)), (6, ⟨[sV 8 1], 25, true, 1⟩), (8, ⟨[sV 9 P1.length], 30, true, 1⟩), (9, (pB (P1.reverse)))]) (fun S' => Weak ⟨w0, W, Try.f5.ntmps, 8, pin, []⟩ S' (mkSt 8 [] [(2, (pB R1)), (3, (pB R2)), (4, (pB R3)), (6, ⟨[sV 8 2], 25, true, 1⟩), (8, ⟨[sV 9 P1.length, sV 10 R1.length], 30, true, 1⟩), (9, (pB (P1.reverse))), (10, (pB (R1.reverse)))])) := by
  refine ar_bl 1 3 ?_
  refine ar_p 7 (
    .a 1 10 <| .p (cF #[.tmp 22] #[30] [sV 2 R1.length] 1 [2, 10] [(2, (pB R1))] [(2, (pB R1)), (10, (pB R1))] (sV 10 R1.length) (clone_own R1 (by omega) (by omega)) (.cons rS .nil) ⟨rfl, bP, trivial⟩ ⟨rfl, bP, rfl, bP, trivial⟩ rS) <| .a 1 11 <| .nil _ _) ?_
  refine ar_p 15 (
    .a 1 11 <| .p (cF #[.tmp 24] #[30] [sV 10 R1.length] 0 [10] [(10, (pB R1))] [(10, (pB R1.reverse))] (.tuple #[]) (rev_ok R1 (by omega) (by omega)) (.cons rS .nil) ⟨rfl, bP, trivial⟩ ⟨rfl, bP, trivial⟩ rF) <| .nil _ _) ?_
  refine ar_p1 (
    .a 3 11 <| .p (does_ap 12) <| .a 1 13 <| .nil _ _) ?_
  exact weak_rr [(8, 12)] [] [(2, (pB R1)), (3, (pB R2)), (4, (pB R3)), (6, ⟨[sV 12 2], 25, true, 1⟩), (12, ⟨[sV 9 P1.length, sV 10 R1.length], 30, true, 1⟩), (9, (pB (P1.reverse))), (10, (pB R1.reverse))] [] [(2, (pB R1)), (3, (pB R2)), (4, (pB R3)), (6, ⟨[sV 8 2], 25, true, 1⟩), (8, ⟨[sV 9 P1.length, sV 10 R1.length], 30, true, 1⟩), (9, (pB (P1.reverse))), (10, (pB (R1.reverse)))] trivial ⟨rfl, ⟨rfl, rfl, rfl, (.flats (flats_pair _))⟩, rfl, ⟨rfl, rfl, rfl, (.flats (flats_pair _))⟩, rfl, ⟨rfl, rfl, rfl, (.flats (flats_pair _))⟩, rfl, ⟨rfl, rfl, rfl, (.cons (rK rfl) .nil)⟩, rfl, ⟨rfl, rfl, rfl, (.cons (rK rfl) (.cons (rK rfl) .nil))⟩, rfl, ⟨rfl, rfl, rfl, (.flats (flats_pair _))⟩, rfl, ⟨rfl, rfl, rfl, (.flats (flats_pair _))⟩, trivial⟩
theorem round_3_1_1 (R1 R2 R3 P1 : List (Int × Int)) (zR1 : 1 ≤ R1.length ∧ R1.length ≤ 200) (zR2 : 1 ≤ R2.length ∧ R2.length ≤ 200) (zR3 : 1 ≤ R3.length ∧ R3.length ≤ 200) (w0 : World) (W : Nat → Prop) (pin : Ren) :
    AR ⟨w0, W, Try.f5.ntmps, 8, pin, []⟩ Try.prog (sb (rndOf Try.f5 125) 1) (mkSt 8 [(9, sV 3 R2.length), (7, .pointer (some ⟨6, 0, none⟩))] [(2, (pB R1)), (3, (pB R2)), (4, (pB R3)), (6, ⟨[sV 8 1], 25, true, 1⟩), (8, ⟨[sV 9 P1.length], 30, true, 1⟩), (9, (pB (P1.reverse)))]) (fun S' => Weak ⟨w0, W, Try.f5.ntmps, 8, pin, []⟩ S' (mkSt 8 [] [(2, (pB R1)), (3, (pB R2)), (4, (pB R3)), (6, ⟨[sV 8 2], 25, true, 1⟩), (8, ⟨[sV 9 P1.length, sV 10 R2.length], 30, true, 1⟩), (9, (pB (P1.reverse))), (10, (pB (R2.reverse)))])) := by
  refine ar_bl 1 3 ?_
  refine ar_p 7 (
    .a 1 10 <| .p (cF #[.tmp 22] #[30] [sV 3 R2.length] 1 [3, 10] [(3, (pB R2))] [(3, (pB R2)), (10, (pB R2))] (sV 10 R2.length) (clone_own R2 (by omega) (by omega)) (.cons rS .nil) ⟨rfl, bP, trivial⟩ ⟨rfl, bP, rfl, bP, trivial⟩ rS) <| .a 1 11 <| .nil _ _) ?_
  refine ar_p 15 (
    .a 1 11 <| .p (cF #[.tmp 24] #[30] [sV 10 R2.length] 0 [10] [(10, (pB R2))] [(10, (pB R2.reverse))] (.tuple #[]) (rev_ok R2 (by omega) (by omega)) (.cons rS .nil) ⟨rfl, bP, trivial⟩ ⟨rfl, bP, trivial⟩ rF) <| .nil _ _) ?_
  refine ar_p1 (
    .a 3 11 <| .p (does_ap 12) <| .a 1 13 <| .nil _ _) ?_
  exact weak_rr [(8, 12)] [] [(2, (pB R1)), (3, (pB R2)), (4, (pB R3)), (6, ⟨[sV 12 2], 25, true, 1⟩), (12, ⟨[sV 9 P1.length, sV 10 R2.length], 30, true, 1⟩), (9, (pB (P1.reverse))), (10, (pB R2.reverse))] [] [(2, (pB R1)), (3, (pB R2)), (4, (pB R3)), (6, ⟨[sV 8 2], 25, true, 1⟩), (8, ⟨[sV 9 P1.length, sV 10 R2.length], 30, true, 1⟩), (9, (pB (P1.reverse))), (10, (pB (R2.reverse)))] trivial ⟨rfl, ⟨rfl, rfl, rfl, (.flats (flats_pair _))⟩, rfl, ⟨rfl, rfl, rfl, (.flats (flats_pair _))⟩, rfl, ⟨rfl, rfl, rfl, (.flats (flats_pair _))⟩, rfl, ⟨rfl, rfl, rfl, (.cons (rK rfl) .nil)⟩, rfl, ⟨rfl, rfl, rfl, (.cons (rK rfl) (.cons (rK rfl) .nil))⟩, rfl, ⟨rfl, rfl, rfl, (.flats (flats_pair _))⟩, rfl, ⟨rfl, rfl, rfl, (.flats (flats_pair _))⟩, trivial⟩
theorem round_3_1_2 (R1 R2 R3 P1 : List (Int × Int)) (zR1 : 1 ≤ R1.length ∧ R1.length ≤ 200) (zR2 : 1 ≤ R2.length ∧ R2.length ≤ 200) (zR3 : 1 ≤ R3.length ∧ R3.length ≤ 200) (w0 : World) (W : Nat → Prop) (pin : Ren) :
    AR ⟨w0, W, Try.f5.ntmps, 8, pin, []⟩ Try.prog (sb (rndOf Try.f5 125) 1) (mkSt 8 [(9, sV 4 R3.length), (7, .pointer (some ⟨6, 0, none⟩))] [(2, (pB R1)), (3, (pB R2)), (4, (pB R3)), (6, ⟨[sV 8 1], 25, true, 1⟩), (8, ⟨[sV 9 P1.length], 30, true, 1⟩), (9, (pB (P1.reverse)))]) (fun S' => Weak ⟨w0, W, Try.f5.ntmps, 8, pin, []⟩ S' (mkSt 8 [] [(2, (pB R1)), (3, (pB R2)), (4, (pB R3)), (6, ⟨[sV 8 2], 25, true, 1⟩), (8, ⟨[sV 9 P1.length, sV 10 R3.length], 30, true, 1⟩), (9, (pB (P1.reverse))), (10, (pB (R3.reverse)))])) := by
  refine ar_bl 1 3 ?_
  refine ar_p 7 (
    .a 1 10 <| .p (cF #[.tmp 22] #[30] [sV 4 R3.length] 1 [4, 10] [(4, (pB R3))] [(4, (pB R3)), (10, (pB R3))] (sV 10 R3.length) (clone_own R3 (by omega) (by omega)) (.cons rS .nil) ⟨rfl, bP, trivial⟩ ⟨rfl, bP, rfl, bP, trivial⟩ rS) <| .a 1 11 <| .nil _ _) ?_
  refine ar_p 15 (
    .a 1 11 <| .p (cF #[.tmp 24] #[30] [sV 10 R3.length] 0 [10] [(10, (pB R3))] [(10, (pB R3.reverse))] (.tuple #[]) (rev_ok R3 (by omega) (by omega)) (.cons rS .nil) ⟨rfl, bP, trivial⟩ ⟨rfl, bP, trivial⟩ rF) <| .nil _ _) ?_
  refine ar_p1 (
    .a 3 11 <| .p (does_ap 12) <| .a 1 13 <| .nil _ _) ?_
  exact weak_rr [(8, 12)] [] [(2, (pB R1)), (3, (pB R2)), (4, (pB R3)), (6, ⟨[sV 12 2], 25, true, 1⟩), (12, ⟨[sV 9 P1.length, sV 10 R3.length], 30, true, 1⟩), (9, (pB (P1.reverse))), (10, (pB R3.reverse))] [] [(2, (pB R1)), (3, (pB R2)), (4, (pB R3)), (6, ⟨[sV 8 2], 25, true, 1⟩), (8, ⟨[sV 9 P1.length, sV 10 R3.length], 30, true, 1⟩), (9, (pB (P1.reverse))), (10, (pB (R3.reverse)))] trivial ⟨rfl, ⟨rfl, rfl, rfl, (.flats (flats_pair _))⟩, rfl, ⟨rfl, rfl, rfl, (.flats (flats_pair _))⟩, rfl, ⟨rfl, rfl, rfl, (.flats (flats_pair _))⟩, rfl, ⟨rfl, rfl, rfl, (.cons (rK rfl) .nil)⟩, rfl, ⟨rfl, rfl, rfl, (.cons (rK rfl) (.cons (rK rfl) .nil))⟩, rfl, ⟨rfl, rfl, rfl, (.flats (flats_pair _))⟩, rfl, ⟨rfl, rfl, rfl, (.flats (flats_pair _))⟩, trivial⟩
theorem round_3_2_0 (R1 R2 R3 P1 P2 : List (Int × Int)) (zR1 : 1 ≤ R1.length ∧ R1.length ≤ 200) (zR2 : 1 ≤ R2.length ∧ R2.length ≤ 200) (zR3 : 1 ≤ R3.length ∧ R3.length ≤ 200) (w0 : World) (W : Nat → Prop) (pin : Ren) :
    AR ⟨w0, W, Try.f5.ntmps, 8, pin, []⟩ Try.prog (sb (rndOf Try.f5 125) 1) (mkSt 8 [(9, sV 2 R1.length), (7, .pointer (some ⟨6, 0, none⟩))] [(2, (pB R1)), (3, (pB R2)), (4, (pB R3)), (6, ⟨[sV 8 2], 25, true, 1⟩), (8, ⟨[sV 9 P1.length, sV 10 P2.length], 30, true, 1⟩), (9, (pB (P1.reverse))), (10, (pB (P2.reverse)))]) (fun S' => Weak ⟨w0, W, Try.f5.ntmps, 8, pin, []⟩ S' (mkSt 8 [] [(2, (pB R1)), (3, (pB R2)), (4, (pB R3)), (6, ⟨[sV 8 3], 25, true, 1⟩), (8, ⟨[sV 9 P1.length, sV 10 P2.length, sV 11 R1.length], 30, true, 1⟩), (9, (pB (P1.reverse))), (10, (pB (P2.reverse))), (11, (pB (R1.reverse)))])) := by
  refine ar_bl 1 3 ?_
  refine ar_p 7 (
    .a 1 11 <| .p (cF #[.tmp 22] #[30] [sV 2 R1.length] 1 [2, 11] [(2, (pB R1))] [(2, (pB R1)), (11, (pB R1))] (sV 11 R1.length) (clone_own R1 (by omega) (by omega)) (.cons rS .nil) ⟨rfl, bP, trivial⟩ ⟨rfl, bP, rfl, bP, trivial⟩ rS) <| .a 1 12 <| .nil _ _) ?_
  refine ar_p 15 (
    .a 1 12 <| .p (cF #[.tmp 24] #[30] [sV 11 R1.length] 0 [11] [(11, (pB R1))] [(11, (pB R1.reverse))] (.tuple #[]) (rev_ok R1 (by omega) (by omega)) (.cons rS .nil) ⟨rfl, bP, trivial⟩ ⟨rfl, bP, trivial⟩ rF) <| .nil _ _) ?_
  refine ar_p1 (
    .a 3 12 <| .p (does_ap 13) <| .a 1 14 <| .nil _ _) ?_
  exact weak_rr [(8, 13)] [] [(2, (pB R1)), (3, (pB R2)), (4, (pB R3)), (6, ⟨[sV 13 3], 25, true, 1⟩), (13, ⟨[sV 9 P1.length, sV 10 P2.length, sV 11 R1.length], 30, true, 1⟩), (9, (pB (P1.reverse))), (10, (pB (P2.reverse))), (11, (pB R1.reverse))] [] [(2, (pB R1)), (3, (pB R2)), (4, (pB R3)), (6, ⟨[sV 8 3], 25, true, 1⟩), (8, ⟨[sV 9 P1.length, sV 10 P2.length, sV 11 R1.length], 30, true, 1⟩), (9, (pB (P1.reverse))), (10, (pB (P2.reverse))), (11, (pB (R1.reverse)))] trivial ⟨rfl, ⟨rfl, rfl, rfl, (.flats (flats_pair _))⟩, rfl, ⟨rfl, rfl, rfl, (.flats (flats_pair _))⟩, rfl, ⟨rfl, rfl, rfl, (.flats (flats_pair _))⟩, rfl, ⟨rfl, rfl, rfl, (.cons (rK rfl) .nil)⟩, rfl, ⟨rfl, rfl, rfl, (.cons (rK rfl) (.cons (rK rfl) (.cons (rK rfl) .nil)))⟩, rfl, ⟨rfl, rfl, rfl, (.flats (flats_pair _))⟩, rfl, ⟨rfl, rfl, rfl, (.flats (flats_pair _))⟩, rfl, ⟨rfl, rfl, rfl, (.flats (flats_pair _))⟩, trivial⟩
theorem round_3_2_1 (R1 R2 R3 P1 P2 : List (Int × Int)) (zR1 : 1 ≤ R1.length ∧ R1.length ≤ 200) (zR2 : 1 ≤ R2.length ∧ R2.length ≤ 200) (zR3 : 1 ≤ R3.length ∧ R3.length ≤ 200) (w0 : World) (W : Nat → Prop) (pin : Ren) :
    AR ⟨w0, W, Try.f5.ntmps, 8, pin, []⟩ Try.prog (sb (rndOf Try.f5 125) 1) (mkSt 8 [(9, sV 3 R2.length), (7, .pointer (some ⟨6, 0, none⟩))] [(2, (pB R1)), (3, (pB R2)), (4, (pB R3)), (6, ⟨[sV 8 2], 25, true, 1⟩), (8, ⟨[sV 9 P1.length, sV 10 P2.length], 30, true, 1⟩), (9, (pB (P1.reverse))), (10, (pB (P2.reverse)))]) (fun S' => Weak ⟨w0, W, Try.f5.ntmps, 8, pin, []⟩ S' (mkSt 8 [] [(2, (pB R1)), (3, (pB R2)), (4, (pB R3)), (6, ⟨[sV 8 3], 25, true, 1⟩), (8, ⟨[sV 9 P1.length, sV 10 P2.length, sV 11 R2.length], 30, true, 1⟩), (9, (pB (P1.reverse))), (10, (pB (P2.reverse))), (11, (pB (R2.reverse)))])) := by
  refine ar_bl 1 3 ?_
  refine ar_p 7 (
    .a 1 11 <| .p (cF #[.tmp 22] #[30] [sV 3 R2.length] 1 [3, 11] [(3, (pB R2))] [(3, (pB R2)), (11, (pB R2))] (sV 11 R2.length) (clone_own R2 (by omega) (by omega)) (.cons rS .nil) ⟨rfl, bP, trivial⟩ ⟨rfl, bP, rfl, bP, trivial⟩ rS) <| .a 1 12 <| .nil _ _) ?_
  refine ar_p 15 (
    .a 1 12 <| .p (cF #[.tmp 24] #[30] [sV 11 R2.length] 0 [11] [(11, (pB R2))] [(11, (pB R2.reverse))] (.tuple #[]) (rev_ok R2 (by omega) (by omega)) (.cons rS .nil) ⟨rfl, bP, trivial⟩ ⟨rfl, bP, trivial⟩ rF) <| .nil _ _) ?_
  refine ar_p1 (
    .a 3 12 <| .p (does_ap 13) <| .a 1 14 <| .nil _ _) ?_
  exact weak_rr [(8, 13)] [] [(2, (pB R1)), (3, (pB R2)), (4, (pB R3)), (6, ⟨[sV 13 3], 25, true, 1⟩), (13, ⟨[sV 9 P1.length, sV 10 P2.length, sV 11 R2.length], 30, true, 1⟩), (9, (pB (P1.reverse))), (10, (pB (P2.reverse))), (11, (pB R2.reverse))] [] [(2, (pB R1)), (3, (pB R2)), (4, (pB R3)), (6, ⟨[sV 8 3], 25, true, 1⟩), (8, ⟨[sV 9 P1.length, sV 10 P2.length, sV 11 R2.length], 30, true, 1⟩), (9, (pB (P1.reverse))), (10, (pB (P2.reverse))), (11, (pB (R2.reverse)))] trivial ⟨rfl, ⟨rfl, rfl, rfl, (.flats (flats_pair _))⟩, rfl, ⟨rfl, rfl, rfl, (.flats (flats_pair _))⟩, rfl, ⟨rfl, rfl, rfl, (.flats (flats_pair _))⟩, rfl, ⟨rfl, rfl, rfl, (.cons (rK rfl) .nil)⟩, rfl, ⟨rfl, rfl, rfl, (.cons (rK rfl) (.cons (rK rfl) (.cons (rK rfl) .nil)))⟩, rfl, ⟨rfl, rfl, rfl, (.flats (flats_pair _))⟩, rfl, ⟨rfl, rfl, rfl, (.flats (flats_pair _))⟩, rfl, ⟨rfl, rfl, rfl, (.flats (flats_pair _))⟩, trivial⟩
theorem round_3_2_2 (R1 R2 R3 P1 P2 : List (Int × Int)) (zR1 : 1 ≤ R1.length ∧ R1.length ≤ 200) (zR2 : 1 ≤ R2.length ∧ R2.length ≤ 200) (zR3 : 1 ≤ R3.length ∧ R3.length ≤ 200) (w0 : World) (W : Nat → Prop) (pin : Ren) :
    AR ⟨w0, W, Try.f5.ntmps, 8, pin, []⟩ Try.prog (sb (rndOf Try.f5 125) 1) (mkSt 8 [(9, sV 4 R3.length), (7, .pointer (some ⟨6, 0, none⟩))] [(2, (pB R1)), (3, (pB R2)), (4, (pB R3)), (6, ⟨[sV 8 2], 25, true, 1⟩), (8, ⟨[sV 9 P1.length, sV 10 P2.length], 30, true, 1⟩), (9, (pB (P1.reverse))), (10, (pB (P2.reverse)))]) (fun S' => Weak ⟨w0, W, Try.f5.ntmps, 8, pin, []⟩ S' (mkSt 8 [] [(2, (pB R1)), (3, (pB R2)), (4, (pB R3)), (6, ⟨[sV 8 3], 25, true, 1⟩), (8, ⟨[sV 9 P1.length, sV 10 P2.length, sV 11 R3.length], 30, true, 1⟩), (9, (pB (P1.reverse))), (10, (pB (P2.reverse))), (11, (pB (R3.reverse)))])) := by
  refine ar_bl 1 3 ?_
  refine ar_p 7 (
    .a 1 11 <| .p (cF #[.tmp 22] #[30] [sV 4 R3.length] 1 [4, 11] [(4, (pB R3))] [(4, (pB R3)), (11, (pB R3))] (sV 11 R3.length) (clone_own R3 (by omega) (by omega)) (.cons rS .nil) ⟨rfl, bP, trivial⟩ ⟨rfl, bP, rfl, bP, trivial⟩ rS) <| .a 1 12 <| .nil _ _) ?_
  refine ar_p 15 (
    .a 1 12 <| .p (cF #[.tmp 24] #[30] [sV 11 R3.length] 0 [11] [(11, (pB R3))] [(11, (pB R3.reverse))] (.tuple #[]) (rev_ok R3 (by omega) (by omega)) (.cons rS .nil) ⟨rfl, bP, trivial⟩ ⟨rfl, bP, trivial⟩ rF) <| .nil _ _) ?_
  refine ar_p1 (
    .a 3 12 <| .p (does_ap 13) <| .a 1 14 <| .nil _ _) ?_
  exact weak_rr [(8, 13)] [] [(2, (pB R1)), (3, (pB R2)), (4, (pB R3)), (6, ⟨[sV 13 3], 25, true, 1⟩), (13, ⟨[sV 9 P1.length, sV 10 P2.length, sV 11 R3.length], 30, true, 1⟩), (9, (pB (P1.reverse))), (10, (pB (P2.reverse))), (11, (pB R3.reverse))] [] [(2, (pB R1)), (3, (pB R2)), (4, (pB R3)), (6, ⟨[sV 8 3], 25, true, 1⟩), (8, ⟨[sV 9 P1.length, sV 10 P2.length, sV 11 R3.length], 30, true, 1⟩), (9, (pB (P1.reverse))), (10, (pB (P2.reverse))), (11, (pB (R3.reverse)))] trivial ⟨rfl, ⟨rfl, rfl, rfl, (.flats (flats_pair _))⟩, rfl, ⟨rfl, rfl, rfl, (.flats (flats_pair _))⟩, rfl, ⟨rfl, rfl, rfl, (.flats (flats_pair _))⟩, rfl, ⟨rfl, rfl, rfl, (.cons (rK rfl) .nil)⟩, rfl, ⟨rfl, rfl, rfl, (.cons (rK rfl) (.cons (rK rfl) (.cons (rK rfl) .nil)))⟩, rfl, ⟨rfl, rfl, rfl, (.flats (flats_pair _))⟩, rfl, ⟨rfl, rfl, rfl, (.flats (flats_pair _))⟩, rfl, ⟨rfl, rfl, rfl, (.flats (flats_pair _))⟩, trivial⟩
theorem rounds_3 (R1 R2 R3 : List (Int × Int)) (zR1 : 1 ≤ R1.length ∧ R1.length ≤ 200) (zR2 : 1 ≤ R2.length ∧ R2.length ≤ 200) (zR3 : 1 ≤ R3.length ∧ R3.length ≤ 200) (w0 : World) (W : Nat → Prop) (pin : Ren) (pre : List (Fin 3)) (x : Fin 3) (h : pre.length < 3) :
    AR ⟨w0, W, Try.f5.ntmps, 8, pin, []⟩ Try.prog (sb (rndOf Try.f5 125) 1) (mkSt 8 [(9, anU3 R1 R2 R3 x), (7, .pointer (some ⟨6, 0, none⟩))] (anL3 R1 R2 R3 pre)) (fun S' => Weak ⟨w0, W, Try.f5.ntmps, 8, pin, []⟩ S' (mkSt 8 [] (anL3 R1 R2 R3 (pre ++ [x])))) :=
  match pre, x, h with
  | [], ⟨0, _⟩, _ => round_3_0_0 R1 R2 R3  zR1 zR2 zR3 w0 W pin
  | [], ⟨1, _⟩, _ => round_3_0_1 R1 R2 R3  zR1 zR2 zR3 w0 W pin
  | [], ⟨2, _⟩, _ => round_3_0_2 R1 R2 R3  zR1 zR2 zR3 w0 W pin
  | [p1], ⟨0, _⟩, _ => round_3_1_0 R1 R2 R3 (anR3 R1 R2 R3 p1.val) zR1 zR2 zR3 w0 W pin
  | [p1], ⟨1, _⟩, _ => round_3_1_1 R1 R2 R3 (anR3 R1 R2 R3 p1.val) zR1 zR2 zR3 w0 W pin
  | [p1], ⟨2, _⟩, _ => round_3_1_2 R1 R2 R3 (anR3 R1 R2 R3 p1.val) zR1 zR2 zR3 w0 W pin
  | [p1, p2], ⟨0, _⟩, _ => round_3_2_0 R1 R2 R3 (anR3 R1 R2 R3 p1.val) (anR3 R1 R2 R3 p2.val) zR1 zR2 zR3 w0 W pin
  | [p1, p2], ⟨1, _⟩, _ => round_3_2_1 R1 R2 R3 (anR3 R1 R2 R3 p1.val) (anR3 R1 R2 R3 p2.val) zR1 zR2 zR3 w0 W pin
  | [p1, p2], ⟨2, _⟩, _ => round_3_2_2 R1 R2 R3 (anR3 R1 R2 R3 p1.val) (anR3 R1 R2 R3 p2.val) zR1 zR2 zR3 w0 W pin
  | _ :: _ :: _ :: _, _, h => absurd h (by simp)
end Go.Proofs.Ytndkhgfecnbmnaa.Am

namespace Go.Proofs.Ytndkhgfecnbmnaa.Am
open Go Go.Proofs
set_option maxRecDepth 100000
set_option maxHeartbeats 4000000
set_option linter.unusedVariables false
set_option linter.unusedSimpArgs false
theorem shadd0S (px py qx qy rx ry : Int) (pxl : -1048576 ≤ px) (pxu : px ≤ 1048576) (pyl : -1048576 ≤ py) (pyu : py ≤ 1048576) (qxl : -1048576 ≤ qx) (qxu : qx ≤ 1048576) (qyl : -1048576 ≤ qy) (qyu : qy ≤ 1048576) (rxl : -1048576 ≤ rx) (rxu : rx ≤ 1048576) (ryl : -1048576 ≤ ry) (ryu : ry ≤ 1048576) (h : Sp.addb [] px py qx qy rx ry = false) :
    AC Try.prog 136 1 ([.agg #[.int .i64 px, .int .i64 py], .agg #[.int .i64 qx, .int .i64 qy], .agg #[.int .i64 rx, .int .i64 ry], .pointer (some ⟨0, 0, none⟩)]) [(0, ⟨[.slice none 0 0], 30, true, 1⟩)] (.tuple #[]) [(0, ⟨[.slice none 0 0], 30, true, 1⟩)] := by
  refine ac_in Try.func136 (fun w0 W pin => ?_)
  refine aw_p 3 (
    .a 3 1 <| .nil _ _) ?_
  refine aw_sq 6 7 ?_
  refine aw_p 13 (
    .a 3 4 <| .p (does_cb _ (on_in qx qy rx ry px py (by omega) (by omega) (by omega) (by omega) (by omega) (by omega) (by omega) (by omega) (by omega) (by omega) (by omega) (by omega)) false ((show (Sp.onb qx qy rx ry px py) = false from (by simpa [Sp.addb, Sp.has2] using h)))) <| .a 1 4 <| .nil _ _) ?_
  refine aw_tr 26 ?_
  refine aw_rt ?_
  refine then_ret ?_
  exact en_ret [] (by kernel_rfl)
theorem shadd0A (px py qx qy rx ry : Int) (pxl : -1048576 ≤ px) (pxu : px ≤ 1048576) (pyl : -1048576 ≤ py) (pyu : py ≤ 1048576) (qxl : -1048576 ≤ qx) (qxu : qx ≤ 1048576) (qyl : -1048576 ≤ qy) (qyu : qy ≤ 1048576) (rxl : -1048576 ≤ rx) (rxu : rx ≤ 1048576) (ryl : -1048576 ≤ ry) (ryu : ry ≤ 1048576) (h : Sp.addb [] px py qx qy rx ry = true) :
    AC Try.prog 136 1 ([.agg #[.int .i64 px, .int .i64 py], .agg #[.int .i64 qx, .int .i64 qy], .agg #[.int .i64 rx, .int .i64 ry], .pointer (some ⟨0, 0, none⟩)]) [(0, ⟨[.slice none 0 0], 30, true, 1⟩)] (.tuple #[]) [(0, ⟨[sV 1 1], 30, true, 1⟩), (1, ⟨[.int .i64 px, .int .i64 py], 28, true, 2⟩)] := by
  refine ac_in Try.func136 (fun w0 W pin => ?_)
  refine aw_p 3 (
    .a 3 2 <| .nil _ _) ?_
  refine aw_sq 6 7 ?_
  refine aw_p 13 (
    .a 3 5 <| .p (does_cb _ (on_in qx qy rx ry px py (by omega) (by omega) (by omega) (by omega) (by omega) (by omega) (by omega) (by omega) (by omega) (by omega) (by omega) (by omega)) true ((Sp.addb_on h))) <| .a 1 5 <| .nil _ _) ?_
  refine aw_fl 27 ?_
  refine aw_sk ?_
  refine then_normal ?_
  refine aw_sq 14 15 ?_
  refine aw_p 29 (
    .a 3 5 <| .nil _ _) ?_
  refine aw_bl 0 59 ?_
  refine aw_lp 119 ?_
  refine al_round ?_
  refine aw_p 239 (
    .a 1 5 <| .nil _ _) ?_
  refine aw_sq 478 479 ?_
  refine aw_fl 957 ?_
  refine aw_ex 0 ?_
  refine then_exit ?_
  refine then_exit ?_
  refine block_exit ?_
  refine then_normal ?_
  refine aw_p1 (
    .a 3 5 <| .p (does_ap 1) <| .a 1 6 <| .nil _ _) ?_
  exact en_normal [] (by kernel_rfl)
theorem shadd1S (x1 y1 px py qx qy rx ry : Int) (pxl : -1048576 ≤ px) (pxu : px ≤ 1048576) (pyl : -1048576 ≤ py) (pyu : py ≤ 1048576) (qxl : -1048576 ≤ qx) (qxu : qx ≤ 1048576) (qyl : -1048576 ≤ qy) (qyu : qy ≤ 1048576) (rxl : -1048576 ≤ rx) (rxu : rx ≤ 1048576) (ryl : -1048576 ≤ ry) (ryu : ry ≤ 1048576) (h : Sp.addb [(x1, y1)] px py qx qy rx ry = false) :
    AC Try.prog 136 2 ([.agg #[.int .i64 px, .int .i64 py], .agg #[.int .i64 qx, .int .i64 qy], .agg #[.int .i64 rx, .int .i64 ry], .pointer (some ⟨0, 0, none⟩)]) [(0, ⟨[sV 1 1], 30, true, 1⟩), (1, ⟨[.int .i64 x1, .int .i64 y1], 28, true, 2⟩)] (.tuple #[]) [(0, ⟨[sV 1 1], 30, true, 1⟩), (1, ⟨[.int .i64 x1, .int .i64 y1], 28, true, 2⟩)] := by
  refine ac_in Try.func136 (fun w0 W pin => ?_)
  refine aw_p 3 (
    .a 3 2 <| .nil _ _) ?_
  refine aw_sq 6 7 ?_
  refine aw_p 13 (
    .a 3 5 <| .p (does_c (on_in qx qy rx ry px py (by omega) (by omega) (by omega) (by omega) (by omega) (by omega) (by omega) (by omega) (by omega) (by omega) (by omega) (by omega))) <| .a 1 5 <| .nil _ _) ?_
  refine aw_cd 26 27 (!(Sp.onb qx qy rx ry px py)) (fun h1 => ?_) (fun h1 => ?_)
  · refine aw_rt ?_
    refine then_ret ?_
    exact en_ret [] (by kernel_rfl)
  · refine aw_sk ?_
    refine then_normal ?_
    refine aw_sq 14 15 ?_
    refine aw_p 29 (
      .a 3 5 <| .nil _ _) ?_
    refine aw_bl 0 59 ?_
    refine aw_lp 119 ?_
    refine al_round ?_
    refine aw_p 239 (
      .a 1 5 <| .nil _ _) ?_
    refine aw_sq 478 479 ?_
    refine aw_tr 956 ?_
    refine aw_sk ?_
    refine then_normal ?_
    refine aw_sq 958 959 ?_
    refine aw_bl 1 1917 ?_
    refine aw_p 3835 (
      .a 4 5 <| .nil _ _) ?_
    refine aw_p 7671 (
      .a 2 6 <|
      .p (does_e true ((show ((x1 == px) && ((y1 == py) && true)) = true from (by have q := h; simp only [Sp.addb, Sp.has2, List.any_cons, List.any_nil, (show Sp.onb qx qy rx ry px py = true from (by simpa using h1)), Bool.or_false, Bool.false_or, Bool.true_and, Bool.not_eq_false'] at q; exact q)))) <| .nil _ _) ?_
    refine aw_tr 15342 ?_
    refine aw_rt ?_
    refine block_ret ?_
    refine then_ret ?_
    refine then_ret ?_
    refine block_ret ?_
    refine then_ret ?_
    exact en_ret [] (by kernel_rfl)
theorem shadd1A (x1 y1 px py qx qy rx ry : Int) (pxl : -1048576 ≤ px) (pxu : px ≤ 1048576) (pyl : -1048576 ≤ py) (pyu : py ≤ 1048576) (qxl : -1048576 ≤ qx) (qxu : qx ≤ 1048576) (qyl : -1048576 ≤ qy) (qyu : qy ≤ 1048576) (rxl : -1048576 ≤ rx) (rxu : rx ≤ 1048576) (ryl : -1048576 ≤ ry) (ryu : ry ≤ 1048576) (h : Sp.addb [(x1, y1)] px py qx qy rx ry = true) :
    AC Try.prog 136 2 ([.agg #[.int .i64 px, .int .i64 py], .agg #[.int .i64 qx, .int .i64 qy], .agg #[.int .i64 rx, .int .i64 ry], .pointer (some ⟨0, 0, none⟩)]) [(0, ⟨[sV 1 1], 30, true, 1⟩), (1, ⟨[.int .i64 x1, .int .i64 y1], 28, true, 2⟩)] (.tuple #[]) [(0, ⟨[sV 2 2], 30, true, 1⟩), (2, ⟨[.int .i64 x1, .int .i64 y1, .int .i64 px, .int .i64 py], 28, true, 2⟩)] := by
  refine ac_in Try.func136 (fun w0 W pin => ?_)
  refine aw_p 3 (
    .a 3 3 <| .nil _ _) ?_
  refine aw_sq 6 7 ?_
  refine aw_p 13 (
    .a 3 6 <| .p (does_cb _ (on_in qx qy rx ry px py (by omega) (by omega) (by omega) (by omega) (by omega) (by omega) (by omega) (by omega) (by omega) (by omega) (by omega) (by omega)) true ((Sp.addb_on h))) <| .a 1 6 <| .nil _ _) ?_
  refine aw_fl 27 ?_
  refine aw_sk ?_
  refine then_normal ?_
  refine aw_sq 14 15 ?_
  refine aw_p 29 (
    .a 3 6 <| .nil _ _) ?_
  refine aw_bl 0 59 ?_
  refine aw_lp 119 ?_
  refine al_round ?_
  refine aw_p 239 (
    .a 1 6 <| .nil _ _) ?_
  refine aw_sq 478 479 ?_
  refine aw_tr 956 ?_
  refine aw_sk ?_
  refine then_normal ?_
  refine aw_sq 958 959 ?_
  refine aw_bl 1 1917 ?_
  refine aw_p 3835 (
    .a 4 6 <| .nil _ _) ?_
  refine aw_p 7671 (
    .a 2 7 <| .p (does_e false ((show ((x1 == px) && ((y1 == py) && true)) = false from (Sp.has2_mem (l := [(x1, y1)]) (x := x1) (y := y1) (by simp) (Sp.addb_no h))))) <| .nil _ _) ?_
  refine aw_fl 15343 ?_
  refine aw_sk ?_
  refine block_normal ?_
  refine then_normal ?_
  refine aw_p1 (
    .a 2 7 <| .nil _ _) ?_
  refine then_normal ?_
  refine al_round ?_
  refine aw_p 239 (
    .a 1 7 <| .nil _ _) ?_
  refine aw_sq 478 479 ?_
  refine aw_fl 957 ?_
  refine aw_ex 0 ?_
  refine then_exit ?_
  refine then_exit ?_
  refine block_exit ?_
  refine then_normal ?_
  refine aw_p1 (
    .a 3 7 <| .p (does_ap 2) <| .a 1 8 <| .nil _ _) ?_
  exact en_normal [] (by kernel_rfl)
theorem shadd2S (x1 y1 x2 y2 px py qx qy rx ry : Int) (pxl : -1048576 ≤ px) (pxu : px ≤ 1048576) (pyl : -1048576 ≤ py) (pyu : py ≤ 1048576) (qxl : -1048576 ≤ qx) (qxu : qx ≤ 1048576) (qyl : -1048576 ≤ qy) (qyu : qy ≤ 1048576) (rxl : -1048576 ≤ rx) (rxu : rx ≤ 1048576) (ryl : -1048576 ≤ ry) (ryu : ry ≤ 1048576) (h : Sp.addb [(x1, y1), (x2, y2)] px py qx qy rx ry = false) :
    AC Try.prog 136 2 ([.agg #[.int .i64 px, .int .i64 py], .agg #[.int .i64 qx, .int .i64 qy], .agg #[.int .i64 rx, .int .i64 ry], .pointer (some ⟨0, 0, none⟩)]) [(0, ⟨[sV 1 2], 30, true, 1⟩), (1, ⟨[.int .i64 x1, .int .i64 y1, .int .i64 x2, .int .i64 y2], 28, true, 2⟩)] (.tuple #[]) [(0, ⟨[sV 1 2], 30, true, 1⟩), (1, ⟨[.int .i64 x1, .int .i64 y1, .int .i64 x2, .int .i64 y2], 28, true, 2⟩)] := by
  refine ac_in Try.func136 (fun w0 W pin => ?_)
  refine aw_p 3 (
    .a 3 2 <| .nil _ _) ?_
  refine aw_sq 6 7 ?_
  refine aw_p 13 (
    .a 3 5 <| .p (does_c (on_in qx qy rx ry px py (by omega) (by omega) (by omega) (by omega) (by omega) (by omega) (by omega) (by omega) (by omega) (by omega) (by omega) (by omega))) <| .a 1 5 <| .nil _ _) ?_
  refine aw_cd 26 27 (!(Sp.onb qx qy rx ry px py)) (fun h1 => ?_) (fun h1 => ?_)
  · refine aw_rt ?_
    refine then_ret ?_
    exact en_ret [] (by kernel_rfl)
  · refine aw_sk ?_
    refine then_normal ?_
    refine aw_sq 14 15 ?_
    refine aw_p 29 (
      .a 3 5 <| .nil _ _) ?_
    refine aw_bl 0 59 ?_
    refine aw_lp 119 ?_
    refine al_round ?_
    refine aw_p 239 (
      .a 1 5 <| .nil _ _) ?_
    refine aw_sq 478 479 ?_
    refine aw_tr 956 ?_
    refine aw_sk ?_
    refine then_normal ?_
    refine aw_sq 958 959 ?_
    refine aw_bl 1 1917 ?_
    refine aw_p 3835 (
      .a 4 5 <| .nil _ _) ?_
    refine aw_p 7671 (
      .a 2 6 <| .p (does_e ((x1 == px) && ((y1 == py) && true)) (rfl)) <| .nil _ _) ?_
    refine aw_cd 15342 15343 ((x1 == px) && ((y1 == py) && true)) (fun h2 => ?_) (fun h2 => ?_)
    · have h2p : ((x1 = px ∧ y1 = py)) := by first | (simpa using h2) | (have h2q := h2; simp at h2q; omega) | (have h2q := bx1 h2; simp at h2q; omega)
      refine aw_rt ?_
      refine block_ret ?_
      refine then_ret ?_
      refine then_ret ?_
      refine block_ret ?_
      refine then_ret ?_
      exact en_ret [] (by kernel_rfl)
    · have h2p : ¬ ((x1 = px ∧ y1 = py)) := by first | (simpa using h2) | (have h2q := h2; simp at h2q; omega) | (have h2q := bx2 h2; simp at h2q; omega)
      refine aw_sk ?_
      refine block_normal ?_
      refine then_normal ?_
      refine aw_p1 (
        .a 2 6 <| .nil _ _) ?_
      refine then_normal ?_
      refine al_round ?_
      refine aw_p 239 (
        .a 1 6 <| .nil _ _) ?_
      refine aw_sq 478 479 ?_
      refine aw_tr 956 ?_
      refine aw_sk ?_
      refine then_normal ?_
      refine aw_sq 958 959 ?_
      refine aw_bl 1 1917 ?_
      refine aw_p 3835 (
        .a 4 6 <| .nil _ _) ?_
      refine aw_p 7671 (
        .a 2 7 <|
        .p (does_e true ((show ((x2 == px) && ((y2 == py) && true)) = true from (by have q := h; simp only [Sp.addb, Sp.has2, List.any_cons, List.any_nil, (show Sp.onb qx qy rx ry px py = true from (by simpa using h1)), h2, Bool.or_false, Bool.false_or, Bool.true_and, Bool.not_eq_false'] at q; exact q)))) <| .nil _ _) ?_
      refine aw_tr 15342 ?_
      refine aw_rt ?_
      refine block_ret ?_
      refine then_ret ?_
      refine then_ret ?_
      refine block_ret ?_
      refine then_ret ?_
      exact en_ret [] (by kernel_rfl)
theorem shadd2A (x1 y1 x2 y2 px py qx qy rx ry : Int) (pxl : -1048576 ≤ px) (pxu : px ≤ 1048576) (pyl : -1048576 ≤ py) (pyu : py ≤ 1048576) (qxl : -1048576 ≤ qx) (qxu : qx ≤ 1048576) (qyl : -1048576 ≤ qy) (qyu : qy ≤ 1048576) (rxl : -1048576 ≤ rx) (rxu : rx ≤ 1048576) (ryl : -1048576 ≤ ry) (ryu : ry ≤ 1048576) (h : Sp.addb [(x1, y1), (x2, y2)] px py qx qy rx ry = true) :
    AC Try.prog 136 2 ([.agg #[.int .i64 px, .int .i64 py], .agg #[.int .i64 qx, .int .i64 qy], .agg #[.int .i64 rx, .int .i64 ry], .pointer (some ⟨0, 0, none⟩)]) [(0, ⟨[sV 1 2], 30, true, 1⟩), (1, ⟨[.int .i64 x1, .int .i64 y1, .int .i64 x2, .int .i64 y2], 28, true, 2⟩)] (.tuple #[]) [(0, ⟨[sV 2 3], 30, true, 1⟩), (2, ⟨[.int .i64 x1, .int .i64 y1, .int .i64 x2, .int .i64 y2, .int .i64 px, .int .i64 py], 28, true, 2⟩)] := by
  refine ac_in Try.func136 (fun w0 W pin => ?_)
  refine aw_p 3 (
    .a 3 3 <| .nil _ _) ?_
  refine aw_sq 6 7 ?_
  refine aw_p 13 (
    .a 3 6 <| .p (does_cb _ (on_in qx qy rx ry px py (by omega) (by omega) (by omega) (by omega) (by omega) (by omega) (by omega) (by omega) (by omega) (by omega) (by omega) (by omega)) true ((Sp.addb_on h))) <| .a 1 6 <| .nil _ _) ?_
  refine aw_fl 27 ?_
  refine aw_sk ?_
  refine then_normal ?_
  refine aw_sq 14 15 ?_
  refine aw_p 29 (
    .a 3 6 <| .nil _ _) ?_
  refine aw_bl 0 59 ?_
  refine aw_lp 119 ?_
  refine al_round ?_
  refine aw_p 239 (
    .a 1 6 <| .nil _ _) ?_
  refine aw_sq 478 479 ?_
  refine aw_tr 956 ?_
  refine aw_sk ?_
  refine then_normal ?_
  refine aw_sq 958 959 ?_
  refine aw_bl 1 1917 ?_
  refine aw_p 3835 (
    .a 4 6 <| .nil _ _) ?_
  refine aw_p 7671 (
    .a 2 7 <| .p (does_e false ((show ((x1 == px) && ((y1 == py) && true)) = false from (Sp.has2_mem (l := [(x1, y1), (x2, y2)]) (x := x1) (y := y1) (by simp) (Sp.addb_no h))))) <| .nil _ _) ?_
  refine aw_fl 15343 ?_
  refine aw_sk ?_
  refine block_normal ?_
  refine then_normal ?_
  refine aw_p1 (
    .a 2 7 <| .nil _ _) ?_
  refine then_normal ?_
  refine al_round ?_
  refine aw_p 239 (
    .a 1 7 <| .nil _ _) ?_
  refine aw_sq 478 479 ?_
  refine aw_tr 956 ?_
  refine aw_sk ?_
  refine then_normal ?_
  refine aw_sq 958 959 ?_
  refine aw_bl 1 1917 ?_
  refine aw_p 3835 (
    .a 4 7 <| .nil _ _) ?_
  refine aw_p 7671 (
    .a 2 8 <| .p (does_e false ((show ((x2 == px) && ((y2 == py) && true)) = false from (Sp.has2_mem (l := [(x1, y1), (x2, y2)]) (x := x2) (y := y2) (by simp) (Sp.addb_no h))))) <| .nil _ _) ?_
  refine aw_fl 15343 ?_
  refine aw_sk ?_
  refine block_normal ?_
  refine then_normal ?_
  refine aw_p1 (
    .a 2 8 <| .nil _ _) ?_
  refine then_normal ?_
  refine al_round ?_
  refine aw_p 239 (
    .a 1 8 <| .nil _ _) ?_
  refine aw_sq 478 479 ?_
  refine aw_fl 957 ?_
  refine aw_ex 0 ?_
  refine then_exit ?_
  refine then_exit ?_
  refine block_exit ?_
  refine then_normal ?_
  refine aw_p1 (
    .a 3 8 <| .p (does_ap 2) <| .a 1 9 <| .nil _ _) ?_
  exact en_normal [] (by kernel_rfl)
theorem shadd3S (x1 y1 x2 y2 x3 y3 px py qx qy rx ry : Int) (pxl : -1048576 ≤ px) (pxu : px ≤ 1048576) (pyl : -1048576 ≤ py) (pyu : py ≤ 1048576) (qxl : -1048576 ≤ qx) (qxu : qx ≤ 1048576) (qyl : -1048576 ≤ qy) (qyu : qy ≤ 1048576) (rxl : -1048576 ≤ rx) (rxu : rx ≤ 1048576) (ryl : -1048576 ≤ ry) (ryu : ry ≤ 1048576) (h : Sp.addb [(x1, y1), (x2, y2), (x3, y3)] px py qx qy rx ry = false) :
    AC Try.prog 136 2 ([.agg #[.int .i64 px, .int .i64 py], .agg #[.int .i64 qx, .int .i64 qy], .agg #[.int .i64 rx, .int .i64 ry], .pointer (some ⟨0, 0, none⟩)]) [(0, ⟨[sV 1 3], 30, true, 1⟩), (1, ⟨[.int .i64 x1, .int .i64 y1, .int .i64 x2, .int .i64 y2, .int .i64 x3, .int .i64 y3], 28, true, 2⟩)] (.tuple #[]) [(0, ⟨[sV 1 3], 30, true, 1⟩), (1, ⟨[.int .i64 x1, .int .i64 y1, .int .i64 x2, .int .i64 y2, .int .i64 x3, .int .i64 y3], 28, true, 2⟩)] := by
  refine ac_in Try.func136 (fun w0 W pin => ?_)
  refine aw_p 3 (
    .a 3 2 <| .nil _ _) ?_
  refine aw_sq 6 7 ?_
  refine aw_p 13 (
    .a 3 5 <| .p (does_c (on_in qx qy rx ry px py (by omega) (by omega) (by omega) (by omega) (by omega) (by omega) (by omega) (by omega) (by omega) (by omega) (by omega) (by omega))) <| .a 1 5 <| .nil _ _) ?_
  refine aw_cd 26 27 (!(Sp.onb qx qy rx ry px py)) (fun h1 => ?_) (fun h1 => ?_)
  · refine aw_rt ?_
    refine then_ret ?_
    exact en_ret [] (by kernel_rfl)
  · refine aw_sk ?_
    refine then_normal ?_
    refine aw_sq 14 15 ?_
    refine aw_p 29 (
      .a 3 5 <| .nil _ _) ?_
    refine aw_bl 0 59 ?_
    refine aw_lp 119 ?_
    refine al_round ?_
    refine aw_p 239 (
      .a 1 5 <| .nil _ _) ?_
    refine aw_sq 478 479 ?_
    refine aw_tr 956 ?_
    refine aw_sk ?_
    refine then_normal ?_
    refine aw_sq 958 959 ?_
    refine aw_bl 1 1917 ?_
    refine aw_p 3835 (
      .a 4 5 <| .nil _ _) ?_
    refine aw_p 7671 (
      .a 2 6 <| .p (does_e ((x1 == px) && ((y1 == py) && true)) (rfl)) <| .nil _ _) ?_
    refine aw_cd 15342 15343 ((x1 == px) && ((y1 == py) && true)) (fun h2 => ?_) (fun h2 => ?_)
    · have h2p : ((x1 = px ∧ y1 = py)) := by first | (simpa using h2) | (have h2q := h2; simp at h2q; omega) | (have h2q := bx1 h2; simp at h2q; omega)
      refine aw_rt ?_
      refine block_ret ?_
      refine then_ret ?_
      refine then_ret ?_
      refine block_ret ?_
      refine then_ret ?_
      exact en_ret [] (by kernel_rfl)
    · have h2p : ¬ ((x1 = px ∧ y1 = py)) := by first | (simpa using h2) | (have h2q := h2; simp at h2q; omega) | (have h2q := bx2 h2; simp at h2q; omega)
      refine aw_sk ?_
      refine block_normal ?_
      refine then_normal ?_
      refine aw_p1 (
        .a 2 6 <| .nil _ _) ?_
      refine then_normal ?_
      refine al_round ?_
      refine aw_p 239 (
        .a 1 6 <| .nil _ _) ?_
      refine aw_sq 478 479 ?_
      refine aw_tr 956 ?_
      refine aw_sk ?_
      refine then_normal ?_
      refine aw_sq 958 959 ?_
      refine aw_bl 1 1917 ?_
      refine aw_p 3835 (
        .a 4 6 <| .nil _ _) ?_
      refine aw_p 7671 (
        .a 2 7 <| .p (does_e ((x2 == px) && ((y2 == py) && true)) (rfl)) <| .nil _ _) ?_
      refine aw_cd 15342 15343 ((x2 == px) && ((y2 == py) && true)) (fun h3 => ?_) (fun h3 => ?_)
      · have h3p : ((x2 = px ∧ y2 = py)) := by first | (simpa using h3) | (have h3q := h3; simp at h3q; omega) | (have h3q := bx1 h3; simp at h3q; omega)
        refine aw_rt ?_
        refine block_ret ?_
        refine then_ret ?_
        refine then_ret ?_
        refine block_ret ?_
        refine then_ret ?_
        exact en_ret [] (by kernel_rfl)
      · have h3p : ¬ ((x2 = px ∧ y2 = py)) := by first | (simpa using h3) | (have h3q := h3; simp at h3q; omega) | (have h3q := bx2 h3; simp at h3q; omega)
        refine aw_sk ?_
        refine block_normal ?_
        refine then_normal ?_
        refine aw_p1 (
          .a 2 7 <| .nil _ _) ?_
        refine then_normal ?_
        refine al_round ?_
        refine aw_p 239 (
          .a 1 7 <| .nil _ _) ?_
        refine aw_sq 478 479 ?_
        refine aw_tr 956 ?_
        refine aw_sk ?_
        refine then_normal ?_
        refine aw_sq 958 959 ?_
        refine aw_bl 1 1917 ?_
        refine aw_p 3835 (
          .a 4 7 <| .nil _ _) ?_
        refine aw_p 7671 (
          .a 2 8 <|
          .p (does_e true ((show ((x3 == px) && ((y3 == py) && true)) = true from (by have q := h; simp only [Sp.addb, Sp.has2, List.any_cons, List.any_nil, (show Sp.onb qx qy rx ry px py = true from (by simpa using h1)), h2, h3, Bool.or_false, Bool.false_or, Bool.true_and, Bool.not_eq_false'] at q; exact q)))) <| .nil _ _) ?_
        refine aw_tr 15342 ?_
        refine aw_rt ?_
        refine block_ret ?_
        refine then_ret ?_
        refine then_ret ?_
        refine block_ret ?_
        refine then_ret ?_
        exact en_ret [] (by kernel_rfl)
theorem shadd3A (x1 y1 x2 y2 x3 y3 px py qx qy rx ry : Int) (pxl : -1048576 ≤ px) (pxu : px ≤ 1048576) (pyl : -1048576 ≤ py) (pyu : py ≤ 1048576) (qxl : -1048576 ≤ qx) (qxu : qx ≤ 1048576) (qyl : -1048576 ≤ qy) (qyu : qy ≤ 1048576) (rxl : -1048576 ≤ rx) (rxu : rx ≤ 1048576) (ryl : -1048576 ≤ ry) (ryu : ry ≤ 1048576) (h : Sp.addb [(x1, y1), (x2, y2), (x3, y3)] px py qx qy rx ry = true) :
    AC Try.prog 136 2 ([.agg #[.int .i64 px, .int .i64 py], .agg #[.int .i64 qx, .int .i64 qy], .agg #[.int .i64 rx, .int .i64 ry], .pointer (some ⟨0, 0, none⟩)]) [(0, ⟨[sV 1 3], 30, true, 1⟩), (1, ⟨[.int .i64 x1, .int .i64 y1, .int .i64 x2, .int .i64 y2, .int .i64 x3, .int .i64 y3], 28, true, 2⟩)] (.tuple #[]) [(0, ⟨[sV 2 4], 30, true, 1⟩), (2, ⟨[.int .i64 x1, .int .i64 y1, .int .i64 x2, .int .i64 y2, .int .i64 x3, .int .i64 y3, .int .i64 px, .int .i64 py], 28, true, 2⟩)] := by
  refine ac_in Try.func136 (fun w0 W pin => ?_)
  refine aw_p 3 (
    .a 3 3 <| .nil _ _) ?_
  refine aw_sq 6 7 ?_
  refine aw_p 13 (
    .a 3 6 <| .p (does_cb _ (on_in qx qy rx ry px py (by omega) (by omega) (by omega) (by omega) (by omega) (by omega) (by omega) (by omega) (by omega) (by omega) (by omega) (by omega)) true ((Sp.addb_on h))) <| .a 1 6 <| .nil _ _) ?_
  refine aw_fl 27 ?_
  refine aw_sk ?_
  refine then_normal ?_
  refine aw_sq 14 15 ?_
  refine aw_p 29 (
    .a 3 6 <| .nil _ _) ?_
  refine aw_bl 0 59 ?_
  refine aw_lp 119 ?_
  refine al_round ?_
  refine aw_p 239 (
    .a 1 6 <| .nil _ _) ?_
  refine aw_sq 478 479 ?_
  refine aw_tr 956 ?_
  refine aw_sk ?_
  refine then_normal ?_
  refine aw_sq 958 959 ?_
  refine aw_bl 1 1917 ?_
  refine aw_p 3835 (
    .a 4 6 <| .nil _ _) ?_
  refine aw_p 7671 (
    .a 2 7 <| .p (does_e false ((show ((x1 == px) && ((y1 == py) && true)) = false from (Sp.has2_mem (l := [(x1, y1), (x2, y2), (x3, y3)]) (x := x1) (y := y1) (by simp) (Sp.addb_no h))))) <| .nil _ _) ?_
  refine aw_fl 15343 ?_
  refine aw_sk ?_
  refine block_normal ?_
  refine then_normal ?_
  refine aw_p1 (
    .a 2 7 <| .nil _ _) ?_
  refine then_normal ?_
  refine al_round ?_
  refine aw_p 239 (
    .a 1 7 <| .nil _ _) ?_
  refine aw_sq 478 479 ?_
  refine aw_tr 956 ?_
  refine aw_sk ?_
  refine then_normal ?_
  refine aw_sq 958 959 ?_
  refine aw_bl 1 1917 ?_
  refine aw_p 3835 (
    .a 4 7 <| .nil _ _) ?_
  refine aw_p 7671 (
    .a 2 8 <| .p (does_e false ((show ((x2 == px) && ((y2 == py) && true)) = false from (Sp.has2_mem (l := [(x1, y1), (x2, y2), (x3, y3)]) (x := x2) (y := y2) (by simp) (Sp.addb_no h))))) <| .nil _ _) ?_
  refine aw_fl 15343 ?_
  refine aw_sk ?_
  refine block_normal ?_
  refine then_normal ?_
  refine aw_p1 (
    .a 2 8 <| .nil _ _) ?_
  refine then_normal ?_
  refine al_round ?_
  refine aw_p 239 (
    .a 1 8 <| .nil _ _) ?_
  refine aw_sq 478 479 ?_
  refine aw_tr 956 ?_
  refine aw_sk ?_
  refine then_normal ?_
  refine aw_sq 958 959 ?_
  refine aw_bl 1 1917 ?_
  refine aw_p 3835 (
    .a 4 8 <| .nil _ _) ?_
  refine aw_p 7671 (
    .a 2 9 <| .p (does_e false ((show ((x3 == px) && ((y3 == py) && true)) = false from (Sp.has2_mem (l := [(x1, y1), (x2, y2), (x3, y3)]) (x := x3) (y := y3) (by simp) (Sp.addb_no h))))) <| .nil _ _) ?_
  refine aw_fl 15343 ?_
  refine aw_sk ?_
  refine block_normal ?_
  refine then_normal ?_
  refine aw_p1 (
    .a 2 9 <| .nil _ _) ?_
  refine then_normal ?_
  refine al_round ?_
  refine aw_p 239 (
    .a 1 9 <| .nil _ _) ?_
  refine aw_sq 478 479 ?_
  refine aw_fl 957 ?_
  refine aw_ex 0 ?_
  refine then_exit ?_
  refine then_exit ?_
  refine block_exit ?_
  refine then_normal ?_
  refine aw_p1 (
    .a 3 9 <| .p (does_ap 2) <| .a 1 10 <| .nil _ _) ?_
  exact en_normal [] (by kernel_rfl)
end Go.Proofs.Ytndkhgfecnbmnaa.Am

namespace Go.Proofs.Ytndkhgfecnbmnaa.Am
open Go Go.Proofs
set_option maxRecDepth 100000
set_option maxHeartbeats 4000000
set_option linter.unusedVariables false
set_option linter.unusedSimpArgs false
theorem shared0000 (ax ay bx b_y cx cy dx dy : Int) (axl : -1048576 ≤ ax) (axu : ax ≤ 1048576) (ayl : -1048576 ≤ ay) (ayu : ay ≤ 1048576) (bxl : -1048576 ≤ bx) (bxu : bx ≤ 1048576) (b_yl : -1048576 ≤ b_y) (b_yu : b_y ≤ 1048576) (cxl : -1048576 ≤ cx) (cxu : cx ≤ 1048576) (cyl : -1048576 ≤ cy) (cyu : cy ≤ 1048576) (dxl : -1048576 ≤ dx) (dxu : dx ≤ 1048576) (dyl : -1048576 ≤ dy) (dyu : dy ≤ 1048576) (g0 : Sp.addb [] ax ay cx cy dx dy = false) (g1 : Sp.addb [] bx b_y cx cy dx dy = false) (g2 : Sp.addb [] cx cy ax ay bx b_y = false) (g3 : Sp.addb [] dx dy ax ay bx b_y = false) :
    AC Try.prog 110 0 ([.agg #[.int .i64 ax, .int .i64 ay], .agg #[.int .i64 bx, .int .i64 b_y], .agg #[.int .i64 cx, .int .i64 cy], .agg #[.int .i64 dx, .int .i64 dy]]) [] (.slice none 0 0) [] := by
  refine ac_in Try.func110 (fun w0 W pin => ?_)
  refine aw_p 3 (
    .a 5 1 <| .nil _ _) ?_
  refine aw_p 7 (
    .a 1 5 <| .nil _ _) ?_
  refine aw_p 15 (
    .a 2 6 <| .nil _ _) ?_
  refine aw_p 31 (
    .a 4 6 <| .p (does_k [5] (shadd0S ax ay cx cy dx dy (by omega) (by omega) (by omega) (by omega) (by omega) (by omega) (by omega) (by omega) (by omega) (by omega) (by omega) (by omega) g0)) <| .nil _ _) ?_
  refine aw_p 63 (
    .a 4 6 <| .p (does_k [5] (shadd0S bx b_y cx cy dx dy (by omega) (by omega) (by omega) (by omega) (by omega) (by omega) (by omega) (by omega) (by omega) (by omega) (by omega) (by omega) g1)) <| .nil _ _) ?_
  refine aw_p 127 (
    .a 4 6 <| .p (does_k [5] (shadd0S cx cy ax ay bx b_y (by omega) (by omega) (by omega) (by omega) (by omega) (by omega) (by omega) (by omega) (by omega) (by omega) (by omega) (by omega) g2)) <| .nil _ _) ?_
  refine aw_p 255 (
    .a 4 6 <| .p (does_k [5] (shadd0S dx dy ax ay bx b_y (by omega) (by omega) (by omega) (by omega) (by omega) (by omega) (by omega) (by omega) (by omega) (by omega) (by omega) (by omega) g3)) <| .nil _ _) ?_
  refine aw_p 511 (
    .a 2 6 <| .nil _ _) ?_
  refine aw_rt ?_
  exact en_ret [.slice none 0 0] (by kernel_rfl)
theorem shared0001 (ax ay bx b_y cx cy dx dy : Int) (axl : -1048576 ≤ ax) (axu : ax ≤ 1048576) (ayl : -1048576 ≤ ay) (ayu : ay ≤ 1048576) (bxl : -1048576 ≤ bx) (bxu : bx ≤ 1048576) (b_yl : -1048576 ≤ b_y) (b_yu : b_y ≤ 1048576) (cxl : -1048576 ≤ cx) (cxu : cx ≤ 1048576) (cyl : -1048576 ≤ cy) (cyu : cy ≤ 1048576) (dxl : -1048576 ≤ dx) (dxu : dx ≤ 1048576) (dyl : -1048576 ≤ dy) (dyu : dy ≤ 1048576) (g0 : Sp.addb [] ax ay cx cy dx dy = false) (g1 : Sp.addb [] bx b_y cx cy dx dy = false) (g2 : Sp.addb [] cx cy ax ay bx b_y = false) (g3 : Sp.addb [] dx dy ax ay bx b_y = true) :
    AC Try.prog 110 0 ([.agg #[.int .i64 ax, .int .i64 ay], .agg #[.int .i64 bx, .int .i64 b_y], .agg #[.int .i64 cx, .int .i64 cy], .agg #[.int .i64 dx, .int .i64 dy]]) [] (sV 0 1) [(0, ⟨[.int .i64 dx, .int .i64 dy], 28, true, 2⟩)] := by
  refine ac_in Try.func110 (fun w0 W pin => ?_)
  refine aw_p 3 (
    .a 5 1 <| .nil _ _) ?_
  refine aw_p 7 (
    .a 1 5 <| .nil _ _) ?_
  refine aw_p 15 (
    .a 2 6 <| .nil _ _) ?_
  refine aw_p 31 (
    .a 4 6 <| .p (does_k [5] (shadd0S ax ay cx cy dx dy (by omega) (by omega) (by omega) (by omega) (by omega) (by omega) (by omega) (by omega) (by omega) (by omega) (by omega) (by omega) g0)) <| .nil _ _) ?_
  refine aw_p 63 (
    .a 4 6 <| .p (does_k [5] (shadd0S bx b_y cx cy dx dy (by omega) (by omega) (by omega) (by omega) (by omega) (by omega) (by omega) (by omega) (by omega) (by omega) (by omega) (by omega) g1)) <| .nil _ _) ?_
  refine aw_p 127 (
    .a 4 6 <| .p (does_k [5] (shadd0S cx cy ax ay bx b_y (by omega) (by omega) (by omega) (by omega) (by omega) (by omega) (by omega) (by omega) (by omega) (by omega) (by omega) (by omega) g2)) <| .nil _ _) ?_
  refine aw_p 255 (
    .a 4 6 <| .p (does_k [5, 0] (shadd0A dx dy ax ay bx b_y (by omega) (by omega) (by omega) (by omega) (by omega) (by omega) (by omega) (by omega) (by omega) (by omega) (by omega) (by omega) g3)) <| .nil _ _) ?_
  refine aw_p 511 (
    .a 2 6 <| .nil _ _) ?_
  refine aw_rt ?_
  exact en_ret [sV 0 1] (by kernel_rfl)
theorem shared0010 (ax ay bx b_y cx cy dx dy : Int) (axl : -1048576 ≤ ax) (axu : ax ≤ 1048576) (ayl : -1048576 ≤ ay) (ayu : ay ≤ 1048576) (bxl : -1048576 ≤ bx) (bxu : bx ≤ 1048576) (b_yl : -1048576 ≤ b_y) (b_yu : b_y ≤ 1048576) (cxl : -1048576 ≤ cx) (cxu : cx ≤ 1048576) (cyl : -1048576 ≤ cy) (cyu : cy ≤ 1048576) (dxl : -1048576 ≤ dx) (dxu : dx ≤ 1048576) (dyl : -1048576 ≤ dy) (dyu : dy ≤ 1048576) (g0 : Sp.addb [] ax ay cx cy dx dy = false) (g1 : Sp.addb [] bx b_y cx cy dx dy = false) (g2 : Sp.addb [] cx cy ax ay bx b_y = true) (g3 : Sp.addb [(cx, cy)] dx dy ax ay bx b_y = false) :
    AC Try.prog 110 0 ([.agg #[.int .i64 ax, .int .i64 ay], .agg #[.int .i64 bx, .int .i64 b_y], .agg #[.int .i64 cx, .int .i64 cy], .agg #[.int .i64 dx, .int .i64 dy]]) [] (sV 0 1) [(0, ⟨[.int .i64 cx, .int .i64 cy], 28, true, 2⟩)] := by
  refine ac_in Try.func110 (fun w0 W pin => ?_)
  refine aw_p 3 (
    .a 5 1 <| .nil _ _) ?_
  refine aw_p 7 (
    .a 1 5 <| .nil _ _) ?_
  refine aw_p 15 (
    .a 2 6 <| .nil _ _) ?_
  refine aw_p 31 (
    .a 4 6 <| .p (does_k [5] (shadd0S ax ay cx cy dx dy (by omega) (by omega) (by omega) (by omega) (by omega) (by omega) (by omega) (by omega) (by omega) (by omega) (by omega) (by omega) g0)) <| .nil _ _) ?_
  refine aw_p 63 (
    .a 4 6 <| .p (does_k [5] (shadd0S bx b_y cx cy dx dy (by omega) (by omega) (by omega) (by omega) (by omega) (by omega) (by omega) (by omega) (by omega) (by omega) (by omega) (by omega) g1)) <| .nil _ _) ?_
  refine aw_p 127 (
    .a 4 6 <| .p (does_k [5, 0] (shadd0A cx cy ax ay bx b_y (by omega) (by omega) (by omega) (by omega) (by omega) (by omega) (by omega) (by omega) (by omega) (by omega) (by omega) (by omega) g2)) <| .nil _ _) ?_
  refine aw_p 255 (
    .a 4 6 <| .p (does_k [5, 0] (shadd1S cx cy dx dy ax ay bx b_y (by omega) (by omega) (by omega) (by omega) (by omega) (by omega) (by omega) (by omega) (by omega) (by omega) (by omega) (by omega) g3)) <| .nil _ _) ?_
  refine aw_p 511 (
    .a 2 6 <| .nil _ _) ?_
  refine aw_rt ?_
  exact en_ret [sV 0 1] (by kernel_rfl)
theorem shared0011 (ax ay bx b_y cx cy dx dy : Int) (axl : -1048576 ≤ ax) (axu : ax ≤ 1048576) (ayl : -1048576 ≤ ay) (ayu : ay ≤ 1048576) (bxl : -1048576 ≤ bx) (bxu : bx ≤ 1048576) (b_yl : -1048576 ≤ b_y) (b_yu : b_y ≤ 1048576) (cxl : -1048576 ≤ cx) (cxu : cx ≤ 1048576) (cyl : -1048576 ≤ cy) (cyu : cy ≤ 1048576) (dxl : -1048576 ≤ dx) (dxu : dx ≤ 1048576) (dyl : -1048576 ≤ dy) (dyu : dy ≤ 1048576) (g0 : Sp.addb [] ax ay cx cy dx dy = false) (g1 : Sp.addb [] bx b_y cx cy dx dy = false) (g2 : Sp.addb [] cx cy ax ay bx b_y = true) (g3 : Sp.addb [(cx, cy)] dx dy ax ay bx b_y = true) :
    AC Try.prog 110 0 ([.agg #[.int .i64 ax, .int .i64 ay], .agg #[.int .i64 bx, .int .i64 b_y], .agg #[.int .i64 cx, .int .i64 cy], .agg #[.int .i64 dx, .int .i64 dy]]) [] (sV 0 2) [(0, ⟨[.int .i64 cx, .int .i64 cy, .int .i64 dx, .int .i64 dy], 28, true, 2⟩)] := by
  refine ac_in Try.func110 (fun w0 W pin => ?_)
  refine aw_p 3 (
    .a 5 1 <| .nil _ _) ?_
  refine aw_p 7 (
    .a 1 5 <| .nil _ _) ?_
  refine aw_p 15 (
    .a 2 6 <| .nil _ _) ?_
  refine aw_p 31 (
    .a 4 6 <| .p (does_k [5] (shadd0S ax ay cx cy dx dy (by omega) (by omega) (by omega) (by omega) (by omega) (by omega) (by omega) (by omega) (by omega) (by omega) (by omega) (by omega) g0)) <| .nil _ _) ?_
  refine aw_p 63 (
    .a 4 6 <| .p (does_k [5] (shadd0S bx b_y cx cy dx dy (by omega) (by omega) (by omega) (by omega) (by omega) (by omega) (by omega) (by omega) (by omega) (by omega) (by omega) (by omega) g1)) <| .nil _ _) ?_
  refine aw_p 127 (
    .a 4 6 <| .p (does_k [5, 6] (shadd0A cx cy ax ay bx b_y (by omega) (by omega) (by omega) (by omega) (by omega) (by omega) (by omega) (by omega) (by omega) (by omega) (by omega) (by omega) g2)) <| .nil _ _) ?_
  refine aw_p 255 (
    .a 4 7 <| .p (does_k [5, 6, 0] (shadd1A cx cy dx dy ax ay bx b_y (by omega) (by omega) (by omega) (by omega) (by omega) (by omega) (by omega) (by omega) (by omega) (by omega) (by omega) (by omega) g3)) <| .nil _ _) ?_
  refine aw_p 511 (
    .a 2 7 <| .nil _ _) ?_
  refine aw_rt ?_
  exact en_ret [sV 0 2] (by kernel_rfl)
theorem shared0100 (ax ay bx b_y cx cy dx dy : Int) (axl : -1048576 ≤ ax) (axu : ax ≤ 1048576) (ayl : -1048576 ≤ ay) (ayu : ay ≤ 1048576) (bxl : -1048576 ≤ bx) (bxu : bx ≤ 1048576) (b_yl : -1048576 ≤ b_y) (b_yu : b_y ≤ 1048576) (cxl : -1048576 ≤ cx) (cxu : cx ≤ 1048576) (cyl : -1048576 ≤ cy) (cyu : cy ≤ 1048576) (dxl : -1048576 ≤ dx) (dxu : dx ≤ 1048576) (dyl : -1048576 ≤ dy) (dyu : dy ≤ 1048576) (g0 : Sp.addb [] ax ay cx cy dx dy = false) (g1 : Sp.addb [] bx b_y cx cy dx dy = true) (g2 : Sp.addb [(bx, b_y)] cx cy ax ay bx b_y = false) (g3 : Sp.addb [(bx, b_y)] dx dy ax ay bx b_y = false) :
    AC Try.prog 110 0 ([.agg #[.int .i64 ax, .int .i64 ay], .agg #[.int .i64 bx, .int .i64 b_y], .agg #[.int .i64 cx, .int .i64 cy], .agg #[.int .i64 dx, .int .i64 dy]]) [] (sV 0 1) [(0, ⟨[.int .i64 bx, .int .i64 b_y], 28, true, 2⟩)] := by
  refine ac_in Try.func110 (fun w0 W pin => ?_)
  refine aw_p 3 (
    .a 5 1 <| .nil _ _) ?_
  refine aw_p 7 (
    .a 1 5 <| .nil _ _) ?_
  refine aw_p 15 (
    .a 2 6 <| .nil _ _) ?_
  refine aw_p 31 (
    .a 4 6 <| .p (does_k [5] (shadd0S ax ay cx cy dx dy (by omega) (by omega) (by omega) (by omega) (by omega) (by omega) (by omega) (by omega) (by omega) (by omega) (by omega) (by omega) g0)) <| .nil _ _) ?_
  refine aw_p 63 (
    .a 4 6 <| .p (does_k [5, 0] (shadd0A bx b_y cx cy dx dy (by omega) (by omega) (by omega) (by omega) (by omega) (by omega) (by omega) (by omega) (by omega) (by omega) (by omega) (by omega) g1)) <| .nil _ _) ?_
  refine aw_p 127 (
    .a 4 6 <| .p (does_k [5, 0] (shadd1S bx b_y cx cy ax ay bx b_y (by omega) (by omega) (by omega) (by omega) (by omega) (by omega) (by omega) (by omega) (by omega) (by omega) (by omega) (by omega) g2)) <| .nil _ _) ?_
  refine aw_p 255 (
    .a 4 6 <| .p (does_k [5, 0] (shadd1S bx b_y dx dy ax ay bx b_y (by omega) (by omega) (by omega) (by omega) (by omega) (by omega) (by omega) (by omega) (by omega) (by omega) (by omega) (by omega) g3)) <| .nil _ _) ?_
  refine aw_p 511 (
    .a 2 6 <| .nil _ _) ?_
  refine aw_rt ?_
  exact en_ret [sV 0 1] (by kernel_rfl)
theorem shared0101 (ax ay bx b_y cx cy dx dy : Int) (axl : -1048576 ≤ ax) (axu : ax ≤ 1048576) (ayl : -1048576 ≤ ay) (ayu : ay ≤ 1048576) (bxl : -1048576 ≤ bx) (bxu : bx ≤ 1048576) (b_yl : -1048576 ≤ b_y) (b_yu : b_y ≤ 1048576) (cxl : -1048576 ≤ cx) (cxu : cx ≤ 1048576) (cyl : -1048576 ≤ cy) (cyu : cy ≤ 1048576) (dxl : -1048576 ≤ dx) (dxu : dx ≤ 1048576) (dyl : -1048576 ≤ dy) (dyu : dy ≤ 1048576) (g0 : Sp.addb [] ax ay cx cy dx dy = false) (g1 : Sp.addb [] bx b_y cx cy dx dy = true) (g2 : Sp.addb [(bx, b_y)] cx cy ax ay bx b_y = false) (g3 : Sp.addb [(bx, b_y)] dx dy ax ay bx b_y = true) :
    AC Try.prog 110 0 ([.agg #[.int .i64 ax, .int .i64 ay], .agg #[.int .i64 bx, .int .i64 b_y], .agg #[.int .i64 cx, .int .i64 cy], .agg #[.int .i64 dx, .int .i64 dy]]) [] (sV 0 2) [(0, ⟨[.int .i64 bx, .int .i64 b_y, .int .i64 dx, .int .i64 dy], 28, true, 2⟩)] := by
  refine ac_in Try.func110 (fun w0 W pin => ?_)
  refine aw_p 3 (
    .a 5 1 <| .nil _ _) ?_
  refine aw_p 7 (
    .a 1 5 <| .nil _ _) ?_
  refine aw_p 15 (
    .a 2 6 <| .nil _ _) ?_
  refine aw_p 31 (
    .a 4 6 <| .p (does_k [5] (shadd0S ax ay cx cy dx dy (by omega) (by omega) (by omega) (by omega) (by omega) (by omega) (by omega) (by omega) (by omega) (by omega) (by omega) (by omega) g0)) <| .nil _ _) ?_
  refine aw_p 63 (
    .a 4 6 <| .p (does_k [5, 6] (shadd0A bx b_y cx cy dx dy (by omega) (by omega) (by omega) (by omega) (by omega) (by omega) (by omega) (by omega) (by omega) (by omega) (by omega) (by omega) g1)) <| .nil _ _) ?_
  refine aw_p 127 (
    .a 4 7 <| .p (does_k [5, 6] (shadd1S bx b_y cx cy ax ay bx b_y (by omega) (by omega) (by omega) (by omega) (by omega) (by omega) (by omega) (by omega) (by omega) (by omega) (by omega) (by omega) g2)) <| .nil _ _) ?_
  refine aw_p 255 (
    .a 4 7 <| .p (does_k [5, 6, 0] (shadd1A bx b_y dx dy ax ay bx b_y (by omega) (by omega) (by omega) (by omega) (by omega) (by omega) (by omega) (by omega) (by omega) (by omega) (by omega) (by omega) g3)) <| .nil _ _) ?_
  refine aw_p 511 (
    .a 2 7 <| .nil _ _) ?_
  refine aw_rt ?_
  exact en_ret [sV 0 2] (by kernel_rfl)
theorem shared0110 (ax ay bx b_y cx cy dx dy : Int) (axl : -1048576 ≤ ax) (axu : ax ≤ 1048576) (ayl : -1048576 ≤ ay) (ayu : ay ≤ 1048576) (bxl : -1048576 ≤ bx) (bxu : bx ≤ 1048576) (b_yl : -1048576 ≤ b_y) (b_yu : b_y ≤ 1048576) (cxl : -1048576 ≤ cx) (cxu : cx ≤ 1048576) (cyl : -1048576 ≤ cy) (cyu : cy ≤ 1048576) (dxl : -1048576 ≤ dx) (dxu : dx ≤ 1048576) (dyl : -1048576 ≤ dy) (dyu : dy ≤ 1048576) (g0 : Sp.addb [] ax ay cx cy dx dy = false) (g1 : Sp.addb [] bx b_y cx cy dx dy = true) (g2 : Sp.addb [(bx, b_y)] cx cy ax ay bx b_y = true) (g3 : Sp.addb [(bx, b_y), (cx, cy)] dx dy ax ay bx b_y = false) :
    AC Try.prog 110 0 ([.agg #[.int .i64 ax, .int .i64 ay], .agg #[.int .i64 bx, .int .i64 b_y], .agg #[.int .i64 cx, .int .i64 cy], .agg #[.int .i64 dx, .int .i64 dy]]) [] (sV 0 2) [(0, ⟨[.int .i64 bx, .int .i64 b_y, .int .i64 cx, .int .i64 cy], 28, true, 2⟩)] := by
  refine ac_in Try.func110 (fun w0 W pin => ?_)
  refine aw_p 3 (
    .a 5 1 <| .nil _ _) ?_
  refine aw_p 7 (
    .a 1 5 <| .nil _ _) ?_
  refine aw_p 15 (
    .a 2 6 <| .nil _ _) ?_
  refine aw_p 31 (
    .a 4 6 <| .p (does_k [5] (shadd0S ax ay cx cy dx dy (by omega) (by omega) (by omega) (by omega) (by omega) (by omega) (by omega) (by omega) (by omega) (by omega) (by omega) (by omega) g0)) <| .nil _ _) ?_
  refine aw_p 63 (
    .a 4 6 <| .p (does_k [5, 6] (shadd0A bx b_y cx cy dx dy (by omega) (by omega) (by omega) (by omega) (by omega) (by omega) (by omega) (by omega) (by omega) (by omega) (by omega) (by omega) g1)) <| .nil _ _) ?_
  refine aw_p 127 (
    .a 4 7 <| .p (does_k [5, 6, 0] (shadd1A bx b_y cx cy ax ay bx b_y (by omega) (by omega) (by omega) (by omega) (by omega) (by omega) (by omega) (by omega) (by omega) (by omega) (by omega) (by omega) g2)) <| .nil _ _) ?_
  refine aw_p 255 (
    .a 4 7 <| .p (does_k [5, 0] (shadd2S bx b_y cx cy dx dy ax ay bx b_y (by omega) (by omega) (by omega) (by omega) (by omega) (by omega) (by omega) (by omega) (by omega) (by omega) (by omega) (by omega) g3)) <| .nil _ _) ?_
  refine aw_p 511 (
    .a 2 7 <| .nil _ _) ?_
  refine aw_rt ?_
  exact en_ret [sV 0 2] (by kernel_rfl)
theorem shared0111 (ax ay bx b_y cx cy dx dy : Int) (axl : -1048576 ≤ ax) (axu : ax ≤ 1048576) (ayl : -1048576 ≤ ay) (ayu : ay ≤ 1048576) (bxl : -1048576 ≤ bx) (bxu : bx ≤ 1048576) (b_yl : -1048576 ≤ b_y) (b_yu : b_y ≤ 1048576) (cxl : -1048576 ≤ cx) (cxu : cx ≤ 1048576) (cyl : -1048576 ≤ cy) (cyu : cy ≤ 1048576) (dxl : -1048576 ≤ dx) (dxu : dx ≤ 1048576) (dyl : -1048576 ≤ dy) (dyu : dy ≤ 1048576) (g0 : Sp.addb [] ax ay cx cy dx dy = false) (g1 : Sp.addb [] bx b_y cx cy dx dy = true) (g2 : Sp.addb [(bx, b_y)] cx cy ax ay bx b_y = true) (g3 : Sp.addb [(bx, b_y), (cx, cy)] dx dy ax ay bx b_y = true) :
    AC Try.prog 110 0 ([.agg #[.int .i64 ax, .int .i64 ay], .agg #[.int .i64 bx, .int .i64 b_y], .agg #[.int .i64 cx, .int .i64 cy], .agg #[.int .i64 dx, .int .i64 dy]]) [] (sV 0 3) [(0, ⟨[.int .i64 bx, .int .i64 b_y, .int .i64 cx, .int .i64 cy, .int .i64 dx, .int .i64 dy], 28, true, 2⟩)] := by
  refine ac_in Try.func110 (fun w0 W pin => ?_)
  refine aw_p 3 (
    .a 5 1 <| .nil _ _) ?_
  refine aw_p 7 (
    .a 1 5 <| .nil _ _) ?_
  refine aw_p 15 (
    .a 2 6 <| .nil _ _) ?_
  refine aw_p 31 (
    .a 4 6 <| .p (does_k [5] (shadd0S ax ay cx cy dx dy (by omega) (by omega) (by omega) (by omega) (by omega) (by omega) (by omega) (by omega) (by omega) (by omega) (by omega) (by omega) g0)) <| .nil _ _) ?_
  refine aw_p 63 (
    .a 4 6 <| .p (does_k [5, 6] (shadd0A bx b_y cx cy dx dy (by omega) (by omega) (by omega) (by omega) (by omega) (by omega) (by omega) (by omega) (by omega) (by omega) (by omega) (by omega) g1)) <| .nil _ _) ?_
  refine aw_p 127 (
    .a 4 7 <| .p (does_k [5, 6, 7] (shadd1A bx b_y cx cy ax ay bx b_y (by omega) (by omega) (by omega) (by omega) (by omega) (by omega) (by omega) (by omega) (by omega) (by omega) (by omega) (by omega) g2)) <| .nil _ _) ?_
  refine aw_p 255 (
    .a 4 8 <| .p (does_k [5, 7, 0] (shadd2A bx b_y cx cy dx dy ax ay bx b_y (by omega) (by omega) (by omega) (by omega) (by omega) (by omega) (by omega) (by omega) (by omega) (by omega) (by omega) (by omega) g3)) <| .nil _ _) ?_
  refine aw_p 511 (
    .a 2 8 <| .nil _ _) ?_
  refine aw_rt ?_
  exact en_ret [sV 0 3] (by kernel_rfl)
theorem shared1000 (ax ay bx b_y cx cy dx dy : Int) (axl : -1048576 ≤ ax) (axu : ax ≤ 1048576) (ayl : -1048576 ≤ ay) (ayu : ay ≤ 1048576) (bxl : -1048576 ≤ bx) (bxu : bx ≤ 1048576) (b_yl : -1048576 ≤ b_y) (b_yu : b_y ≤ 1048576) (cxl : -1048576 ≤ cx) (cxu : cx ≤ 1048576) (cyl : -1048576 ≤ cy) (cyu : cy ≤ 1048576) (dxl : -1048576 ≤ dx) (dxu : dx ≤ 1048576) (dyl : -1048576 ≤ dy) (dyu : dy ≤ 1048576) (g0 : Sp.addb [] ax ay cx cy dx dy = true) (g1 : Sp.addb [(ax, ay)] bx b_y cx cy dx dy = false) (g2 : Sp.addb [(ax, ay)] cx cy ax ay bx b_y = false) (g3 : Sp.addb [(ax, ay)] dx dy ax ay bx b_y = false) :
    AC Try.prog 110 0 ([.agg #[.int .i64 ax, .int .i64 ay], .agg #[.int .i64 bx, .int .i64 b_y], .agg #[.int .i64 cx, .int .i64 cy], .agg #[.int .i64 dx, .int .i64 dy]]) [] (sV 0 1) [(0, ⟨[.int .i64 ax, .int .i64 ay], 28, true, 2⟩)] := by
  refine ac_in Try.func110 (fun w0 W pin => ?_)
  refine aw_p 3 (
    .a 5 1 <| .nil _ _) ?_
  refine aw_p 7 (
    .a 1 5 <| .nil _ _) ?_
  refine aw_p 15 (
    .a 2 6 <| .nil _ _) ?_
  refine aw_p 31 (
    .a 4 6 <| .p (does_k [5, 0] (shadd0A ax ay cx cy dx dy (by omega) (by omega) (by omega) (by omega) (by omega) (by omega) (by omega) (by omega) (by omega) (by omega) (by omega) (by omega) g0)) <| .nil _ _) ?_
  refine aw_p 63 (
    .a 4 6 <| .p (does_k [5, 0] (shadd1S ax ay bx b_y cx cy dx dy (by omega) (by omega) (by omega) (by omega) (by omega) (by omega) (by omega) (by omega) (by omega) (by omega) (by omega) (by omega) g1)) <| .nil _ _) ?_
  refine aw_p 127 (
    .a 4 6 <| .p (does_k [5, 0] (shadd1S ax ay cx cy ax ay bx b_y (by omega) (by omega) (by omega) (by omega) (by omega) (by omega) (by omega) (by omega) (by omega) (by omega) (by omega) (by omega) g2)) <| .nil _ _) ?_
  refine aw_p 255 (
    .a 4 6 <| .p (does_k [5, 0] (shadd1S ax ay dx dy ax ay bx b_y (by omega) (by omega) (by omega) (by omega) (by omega) (by omega) (by omega) (by omega) (by omega) (by omega) (by omega) (by omega) g3)) <| .nil _ _) ?_
  refine aw_p 511 (
    .a 2 6 <| .nil _ _) ?_
  refine aw_rt ?_
  exact en_ret [sV 0 1] (by kernel_rfl)
theorem shared1001 (ax ay bx b_y cx cy dx dy : Int) (axl : -1048576 ≤ ax) (axu : ax ≤ 1048576) (ayl : -1048576 ≤ ay) (ayu : ay ≤ 1048576) (bxl : -1048576 ≤ bx) (bxu : bx ≤ 1048576) (b_yl : -1048576 ≤ b_y) (b_yu : b_y ≤ 1048576) (cxl : -1048576 ≤ cx) (cxu : cx ≤ 1048576) (cyl : -1048576 ≤ cy) (cyu : cy ≤ 1048576) (dxl : -1048576 ≤ dx) (dxu : dx ≤ 1048576) (dyl : -1048576 ≤ dy) (dyu : dy ≤ 1048576) (g0 : Sp.addb [] ax ay cx cy dx dy = true) (g1 : Sp.addb [(ax, ay)] bx b_y cx cy dx dy = false) (g2 : Sp.addb [(ax, ay)] cx cy ax ay bx b_y = false) (g3 : Sp.addb [(ax, ay)] dx dy ax ay bx b_y = true) :
    AC Try.prog 110 0 ([.agg #[.int .i64 ax, .int .i64 ay], .agg #[.int .i64 bx, .int .i64 b_y], .agg #[.int .i64 cx, .int .i64 cy], .agg #[.int .i64 dx, .int .i64 dy]]) [] (sV 0 2) [(0, ⟨[.int .i64 ax, .int .i64 ay, .int .i64 dx, .int .i64 dy], 28, true, 2⟩)] := by
  refine ac_in Try.func110 (fun w0 W pin => ?_)
  refine aw_p 3 (
    .a 5 1 <| .nil _ _) ?_
  refine aw_p 7 (
    .a 1 5 <| .nil _ _) ?_
  refine aw_p 15 (
    .a 2 6 <| .nil _ _) ?_
  refine aw_p 31 (
    .a 4 6 <| .p (does_k [5, 6] (shadd0A ax ay cx cy dx dy (by omega) (by omega) (by omega) (by omega) (by omega) (by omega) (by omega) (by omega) (by omega) (by omega) (by omega) (by omega) g0)) <| .nil _ _) ?_
  refine aw_p 63 (
    .a 4 7 <| .p (does_k [5, 6] (shadd1S ax ay bx b_y cx cy dx dy (by omega) (by omega) (by omega) (by omega) (by omega) (by omega) (by omega) (by omega) (by omega) (by omega) (by omega) (by omega) g1)) <| .nil _ _) ?_
  refine aw_p 127 (
    .a 4 7 <| .p (does_k [5, 6] (shadd1S ax ay cx cy ax ay bx b_y (by omega) (by omega) (by omega) (by omega) (by omega) (by omega) (by omega) (by omega) (by omega) (by omega) (by omega) (by omega) g2)) <| .nil _ _) ?_
  refine aw_p 255 (
    .a 4 7 <| .p (does_k [5, 6, 0] (shadd1A ax ay dx dy ax ay bx b_y (by omega) (by omega) (by omega) (by omega) (by omega) (by omega) (by omega) (by omega) (by omega) (by omega) (by omega) (by omega) g3)) <| .nil _ _) ?_
  refine aw_p 511 (
    .a 2 7 <| .nil _ _) ?_
  refine aw_rt ?_
  exact en_ret [sV 0 2] (by kernel_rfl)
theorem shared1010 (ax ay bx b_y cx cy dx dy : Int) (axl : -1048576 ≤ ax) (axu : ax ≤ 1048576) (ayl : -1048576 ≤ ay) (ayu : ay ≤ 1048576) (bxl : -1048576 ≤ bx) (bxu : bx ≤ 1048576) (b_yl : -1048576 ≤ b_y) (b_yu : b_y ≤ 1048576) (cxl : -1048576 ≤ cx) (cxu : cx ≤ 1048576) (cyl : -1048576 ≤ cy) (cyu : cy ≤ 1048576) (dxl : -1048576 ≤ dx) (dxu : dx ≤ 1048576) (dyl : -1048576 ≤ dy) (dyu : dy ≤ 1048576) (g0 : Sp.addb [] ax ay cx cy dx dy = true) (g1 : Sp.addb [(ax, ay)] bx b_y cx cy dx dy = false) (g2 : Sp.addb [(ax, ay)] cx cy ax ay bx b_y = true) (g3 : Sp.addb [(ax, ay), (cx, cy)] dx dy ax ay bx b_y = false) :
    AC Try.prog 110 0 ([.agg #[.int .i64 ax, .int .i64 ay], .agg #[.int .i64 bx, .int .i64 b_y], .agg #[.int .i64 cx, .int .i64 cy], .agg #[.int .i64 dx, .int .i64 dy]]) [] (sV 0 2) [(0, ⟨[.int .i64 ax, .int .i64 ay, .int .i64 cx, .int .i64 cy], 28, true, 2⟩)] := by
  refine ac_in Try.func110 (fun w0 W pin => ?_)
  refine aw_p 3 (
    .a 5 1 <| .nil _ _) ?_
  refine aw_p 7 (
    .a 1 5 <| .nil _ _) ?_
  refine aw_p 15 (
    .a 2 6 <| .nil _ _) ?_
  refine aw_p 31 (
    .a 4 6 <| .p (does_k [5, 6] (shadd0A ax ay cx cy dx dy (by omega) (by omega) (by omega) (by omega) (by omega) (by omega) (by omega) (by omega) (by omega) (by omega) (by omega) (by omega) g0)) <| .nil _ _) ?_
  refine aw_p 63 (
    .a 4 7 <| .p (does_k [5, 6] (shadd1S ax ay bx b_y cx cy dx dy (by omega) (by omega) (by omega) (by omega) (by omega) (by omega) (by omega) (by omega) (by omega) (by omega) (by omega) (by omega) g1)) <| .nil _ _) ?_
  refine aw_p 127 (
    .a 4 7 <| .p (does_k [5, 6, 0] (shadd1A ax ay cx cy ax ay bx b_y (by omega) (by omega) (by omega) (by omega) (by omega) (by omega) (by omega) (by omega) (by omega) (by omega) (by omega) (by omega) g2)) <| .nil _ _) ?_
  refine aw_p 255 (
    .a 4 7 <| .p (does_k [5, 0] (shadd2S ax ay cx cy dx dy ax ay bx b_y (by omega) (by omega) (by omega) (by omega) (by omega) (by omega) (by omega) (by omega) (by omega) (by omega) (by omega) (by omega) g3)) <| .nil _ _) ?_
  refine aw_p 511 (
    .a 2 7 <| .nil _ _) ?_
  refine aw_rt ?_
  exact en_ret [sV 0 2] (by kernel_rfl)
theorem shared1011 (ax ay bx b_y cx cy dx dy : Int) (axl : -1048576 ≤ ax) (axu : ax ≤ 1048576) (ayl : -1048576 ≤ ay) (ayu : ay ≤ 1048576) (bxl : -1048576 ≤ bx) (bxu : bx ≤ 1048576) (b_yl : -1048576 ≤ b_y) (b_yu : b_y ≤ 1048576) (cxl : -1048576 ≤ cx) (cxu : cx ≤ 1048576) (cyl : -1048576 ≤ cy) (cyu : cy ≤ 1048576) (dxl : -1048576 ≤ dx) (dxu : dx ≤ 1048576) (dyl : -1048576 ≤ dy) (dyu : dy ≤ 1048576) (g0 : Sp.addb [] ax ay cx cy dx dy = true) (g1 : Sp.addb [(ax, ay)] bx b_y cx cy dx dy = false) (g2 : Sp.addb [(ax, ay)] cx cy ax ay bx b_y = true) (g3 : Sp.addb [(ax, ay), (cx, cy)] dx dy ax ay bx b_y = true) :
    AC Try.prog 110 0 ([.agg #[.int .i64 ax, .int .i64 ay], .agg #[.int .i64 bx, .int .i64 b_y], .agg #[.int .i64 cx, .int .i64 cy], .agg #[.int .i64 dx, .int .i64 dy]]) [] (sV 0 3) [(0, ⟨[.int .i64 ax, .int .i64 ay, .int .i64 cx, .int .i64 cy, .int .i64 dx, .int .i64 dy], 28, true, 2⟩)] := by
  refine ac_in Try.func110 (fun w0 W pin => ?_)
  refine aw_p 3 (
    .a 5 1 <| .nil _ _) ?_
  refine aw_p 7 (
    .a 1 5 <| .nil _ _) ?_
  refine aw_p 15 (
    .a 2 6 <| .nil _ _) ?_
  refine aw_p 31 (
    .a 4 6 <| .p (does_k [5, 6] (shadd0A ax ay cx cy dx dy (by omega) (by omega) (by omega) (by omega) (by omega) (by omega) (by omega) (by omega) (by omega) (by omega) (by omega) (by omega) g0)) <| .nil _ _) ?_
  refine aw_p 63 (
    .a 4 7 <| .p (does_k [5, 6] (shadd1S ax ay bx b_y cx cy dx dy (by omega) (by omega) (by omega) (by omega) (by omega) (by omega) (by omega) (by omega) (by omega) (by omega) (by omega) (by omega) g1)) <| .nil _ _) ?_
  refine aw_p 127 (
    .a 4 7 <| .p (does_k [5, 6, 7] (shadd1A ax ay cx cy ax ay bx b_y (by omega) (by omega) (by omega) (by omega) (by omega) (by omega) (by omega) (by omega) (by omega) (by omega) (by omega) (by omega) g2)) <| .nil _ _) ?_
  refine aw_p 255 (
    .a 4 8 <| .p (does_k [5, 7, 0] (shadd2A ax ay cx cy dx dy ax ay bx b_y (by omega) (by omega) (by omega) (by omega) (by omega) (by omega) (by omega) (by omega) (by omega) (by omega) (by omega) (by omega) g3)) <| .nil _ _) ?_
  refine aw_p 511 (
    .a 2 8 <| .nil _ _) ?_
  refine aw_rt ?_
  exact en_ret [sV 0 3] (by kernel_rfl)
theorem shared1100 (ax ay bx b_y cx cy dx dy : Int) (axl : -1048576 ≤ ax) (axu : ax ≤ 1048576) (ayl : -1048576 ≤ ay) (ayu : ay ≤ 1048576) (bxl : -1048576 ≤ bx) (bxu : bx ≤ 1048576) (b_yl : -1048576 ≤ b_y) (b_yu : b_y ≤ 1048576) (cxl : -1048576 ≤ cx) (cxu : cx ≤ 1048576) (cyl : -1048576 ≤ cy) (cyu : cy ≤ 1048576) (dxl : -1048576 ≤ dx) (dxu : dx ≤ 1048576) (dyl : -1048576 ≤ dy) (dyu : dy ≤ 1048576) (g0 : Sp.addb [] ax ay cx cy dx dy = true) (g1 : Sp.addb [(ax, ay)] bx b_y cx cy dx dy = true) (g2 : Sp.addb [(ax, ay), (bx, b_y)] cx cy ax ay bx b_y = false) (g3 : Sp.addb [(ax, ay), (bx, b_y)] dx dy ax ay bx b_y = false) :
    AC Try.prog 110 0 ([.agg #[.int .i64 ax, .int .i64 ay], .agg #[.int .i64 bx, .int .i64 b_y], .agg #[.int .i64 cx, .int .i64 cy], .agg #[.int .i64 dx, .int .i64 dy]]) [] (sV 0 2) [(0, ⟨[.int .i64 ax, .int .i64 ay, .int .i64 bx, .int .i64 b_y], 28, true, 2⟩)] := by
  refine ac_in Try.func110 (fun w0 W pin => ?_)
  refine aw_p 3 (
    .a 5 1 <| .nil _ _) ?_
  refine aw_p 7 (
    .a 1 5 <| .nil _ _) ?_
  refine aw_p 15 (
    .a 2 6 <| .nil _ _) ?_
  refine aw_p 31 (
    .a 4 6 <| .p (does_k [5, 6] (shadd0A ax ay cx cy dx dy (by omega) (by omega) (by omega) (by omega) (by omega) (by omega) (by omega) (by omega) (by omega) (by omega) (by omega) (by omega) g0)) <| .nil _ _) ?_
  refine aw_p 63 (
    .a 4 7 <| .p (does_k [5, 6, 0] (shadd1A ax ay bx b_y cx cy dx dy (by omega) (by omega) (by omega) (by omega) (by omega) (by omega) (by omega) (by omega) (by omega) (by omega) (by omega) (by omega) g1)) <| .nil _ _) ?_
  refine aw_p 127 (
    .a 4 7 <| .p (does_k [5, 0] (shadd2S ax ay bx b_y cx cy ax ay bx b_y (by omega) (by omega) (by omega) (by omega) (by omega) (by omega) (by omega) (by omega) (by omega) (by omega) (by omega) (by omega) g2)) <| .nil _ _) ?_
  refine aw_p 255 (
    .a 4 7 <| .p (does_k [5, 0] (shadd2S ax ay bx b_y dx dy ax ay bx b_y (by omega) (by omega) (by omega) (by omega) (by omega) (by omega) (by omega) (by omega) (by omega) (by omega) (by omega) (by omega) g3)) <| .nil _ _) ?_
  refine aw_p 511 (
    .a 2 7 <| .nil _ _) ?_
  refine aw_rt ?_
  exact en_ret [sV 0 2] (by kernel_rfl)
theorem shared1101 (ax ay bx b_y cx cy dx dy : Int) (axl : -1048576 ≤ ax) (axu : ax ≤ 1048576) (ayl : -1048576 ≤ ay) (ayu : ay ≤ 1048576) (bxl : -1048576 ≤ bx) (bxu : bx ≤ 1048576) (b_yl : -1048576 ≤ b_y) (b_yu : b_y ≤ 1048576) (cxl : -1048576 ≤ cx) (cxu : cx ≤ 1048576) (cyl : -1048576 ≤ cy) (cyu : cy ≤ 1048576) (dxl : -1048576 ≤ dx) (dxu : dx ≤ 1048576) (dyl : -1048576 ≤ dy) (dyu : dy ≤ 1048576) (g0 : Sp.addb [] ax ay cx cy dx dy = true) (g1 : Sp.addb [(ax, ay)] bx b_y cx cy dx dy = true) (g2 : Sp.addb [(ax, ay), (bx, b_y)] cx cy ax ay bx b_y = false) (g3 : Sp.addb [(ax, ay), (bx, b_y)] dx dy ax ay bx b_y = true) :
    AC Try.prog 110 0 ([.agg #[.int .i64 ax, .int .i64 ay], .agg #[.int .i64 bx, .int .i64 b_y], .agg #[.int .i64 cx, .int .i64 cy], .agg #[.int .i64 dx, .int .i64 dy]]) [] (sV 0 3) [(0, ⟨[.int .i64 ax, .int .i64 ay, .int .i64 bx, .int .i64 b_y, .int .i64 dx, .int .i64 dy], 28, true, 2⟩)] := by
  refine ac_in Try.func110 (fun w0 W pin => ?_)
  refine aw_p 3 (
    .a 5 1 <| .nil _ _) ?_
  refine aw_p 7 (
    .a 1 5 <| .nil _ _) ?_
  refine aw_p 15 (
    .a 2 6 <| .nil _ _) ?_
  refine aw_p 31 (
    .a 4 6 <| .p (does_k [5, 6] (shadd0A ax ay cx cy dx dy (by omega) (by omega) (by omega) (by omega) (by omega) (by omega) (by omega) (by omega) (by omega) (by omega) (by omega) (by omega) g0)) <| .nil _ _) ?_
  refine aw_p 63 (
    .a 4 7 <| .p (does_k [5, 6, 7] (shadd1A ax ay bx b_y cx cy dx dy (by omega) (by omega) (by omega) (by omega) (by omega) (by omega) (by omega) (by omega) (by omega) (by omega) (by omega) (by omega) g1)) <| .nil _ _) ?_
  refine aw_p 127 (
    .a 4 8 <| .p (does_k [5, 7] (shadd2S ax ay bx b_y cx cy ax ay bx b_y (by omega) (by omega) (by omega) (by omega) (by omega) (by omega) (by omega) (by omega) (by omega) (by omega) (by omega) (by omega) g2)) <| .nil _ _) ?_
  refine aw_p 255 (
    .a 4 8 <| .p (does_k [5, 7, 0] (shadd2A ax ay bx b_y dx dy ax ay bx b_y (by omega) (by omega) (by omega) (by omega) (by omega) (by omega) (by omega) (by omega) (by omega) (by omega) (by omega) (by omega) g3)) <| .nil _ _) ?_
  refine aw_p 511 (
    .a 2 8 <| .nil _ _) ?_
  refine aw_rt ?_
  exact en_ret [sV 0 3] (by kernel_rfl)
theorem shared1110 (ax ay bx b_y cx cy dx dy : Int) (axl : -1048576 ≤ ax) (axu : ax ≤ 1048576) (ayl : -1048576 ≤ ay) (ayu : ay ≤ 1048576) (bxl : -1048576 ≤ bx) (bxu : bx ≤ 1048576) (b_yl : -1048576 ≤ b_y) (b_yu : b_y ≤ 1048576) (cxl : -1048576 ≤ cx) (cxu : cx ≤ 1048576) (cyl : -1048576 ≤ cy) (cyu : cy ≤ 1048576) (dxl : -1048576 ≤ dx) (dxu : dx ≤ 1048576) (dyl : -1048576 ≤ dy) (dyu : dy ≤ 1048576) (g0 : Sp.addb [] ax ay cx cy dx dy = true) (g1 : Sp.addb [(ax, ay)] bx b_y cx cy dx dy = true) (g2 : Sp.addb [(ax, ay), (bx, b_y)] cx cy ax ay bx b_y = true) (g3 : Sp.addb [(ax, ay), (bx, b_y), (cx, cy)] dx dy ax ay bx b_y = false) :
    AC Try.prog 110 0 ([.agg #[.int .i64 ax, .int .i64 ay], .agg #[.int .i64 bx, .int .i64 b_y], .agg #[.int .i64 cx, .int .i64 cy], .agg #[.int .i64 dx, .int .i64 dy]]) [] (sV 0 3) [(0, ⟨[.int .i64 ax, .int .i64 ay, .int .i64 bx, .int .i64 b_y, .int .i64 cx, .int .i64 cy], 28, true, 2⟩)] := by
  refine ac_in Try.func110 (fun w0 W pin => ?_)
  refine aw_p 3 (
    .a 5 1 <| .nil _ _) ?_
  refine aw_p 7 (
    .a 1 5 <| .nil _ _) ?_
  refine aw_p 15 (
    .a 2 6 <| .nil _ _) ?_
  refine aw_p 31 (
    .a 4 6 <| .p (does_k [5, 6] (shadd0A ax ay cx cy dx dy (by omega) (by omega) (by omega) (by omega) (by omega) (by omega) (by omega) (by omega) (by omega) (by omega) (by omega) (by omega) g0)) <| .nil _ _) ?_
  refine aw_p 63 (
    .a 4 7 <| .p (does_k [5, 6, 7] (shadd1A ax ay bx b_y cx cy dx dy (by omega) (by omega) (by omega) (by omega) (by omega) (by omega) (by omega) (by omega) (by omega) (by omega) (by omega) (by omega) g1)) <| .nil _ _) ?_
  refine aw_p 127 (
    .a 4 8 <| .p (does_k [5, 7, 0] (shadd2A ax ay bx b_y cx cy ax ay bx b_y (by omega) (by omega) (by omega) (by omega) (by omega) (by omega) (by omega) (by omega) (by omega) (by omega) (by omega) (by omega) g2)) <| .nil _ _) ?_
  refine aw_p 255 (
    .a 4 8 <| .p (does_k [5, 0] (shadd3S ax ay bx b_y cx cy dx dy ax ay bx b_y (by omega) (by omega) (by omega) (by omega) (by omega) (by omega) (by omega) (by omega) (by omega) (by omega) (by omega) (by omega) g3)) <| .nil _ _) ?_
  refine aw_p 511 (
    .a 2 8 <| .nil _ _) ?_
  refine aw_rt ?_
  exact en_ret [sV 0 3] (by kernel_rfl)
theorem shared1111 (ax ay bx b_y cx cy dx dy : Int) (axl : -1048576 ≤ ax) (axu : ax ≤ 1048576) (ayl : -1048576 ≤ ay) (ayu : ay ≤ 1048576) (bxl : -1048576 ≤ bx) (bxu : bx ≤ 1048576) (b_yl : -1048576 ≤ b_y) (b_yu : b_y ≤ 1048576) (cxl : -1048576 ≤ cx) (cxu : cx ≤ 1048576) (cyl : -1048576 ≤ cy) (cyu : cy ≤ 1048576) (dxl : -1048576 ≤ dx) (dxu : dx ≤ 1048576) (dyl : -1048576 ≤ dy) (dyu : dy ≤ 1048576) (g0 : Sp.addb [] ax ay cx cy dx dy = true) (g1 : Sp.addb [(ax, ay)] bx b_y cx cy dx dy = true) (g2 : Sp.addb [(ax, ay), (bx, b_y)] cx cy ax ay bx b_y = true) (g3 : Sp.addb [(ax, ay), (bx, b_y), (cx, cy)] dx dy ax ay bx b_y = true) :
    AC Try.prog 110 0 ([.agg #[.int .i64 ax, .int .i64 ay], .agg #[.int .i64 bx, .int .i64 b_y], .agg #[.int .i64 cx, .int .i64 cy], .agg #[.int .i64 dx, .int .i64 dy]]) [] (sV 0 4) [(0, ⟨[.int .i64 ax, .int .i64 ay, .int .i64 bx, .int .i64 b_y, .int .i64 cx, .int .i64 cy, .int .i64 dx, .int .i64 dy], 28, true, 2⟩)] := by
  refine ac_in Try.func110 (fun w0 W pin => ?_)
  refine aw_p 3 (
    .a 5 1 <| .nil _ _) ?_
  refine aw_p 7 (
    .a 1 5 <| .nil _ _) ?_
  refine aw_p 15 (
    .a 2 6 <| .nil _ _) ?_
  refine aw_p 31 (
    .a 4 6 <| .p (does_k [5, 6] (shadd0A ax ay cx cy dx dy (by omega) (by omega) (by omega) (by omega) (by omega) (by omega) (by omega) (by omega) (by omega) (by omega) (by omega) (by omega) g0)) <| .nil _ _) ?_
  refine aw_p 63 (
    .a 4 7 <| .p (does_k [5, 6, 7] (shadd1A ax ay bx b_y cx cy dx dy (by omega) (by omega) (by omega) (by omega) (by omega) (by omega) (by omega) (by omega) (by omega) (by omega) (by omega) (by omega) g1)) <| .nil _ _) ?_
  refine aw_p 127 (
    .a 4 8 <| .p (does_k [5, 7, 8] (shadd2A ax ay bx b_y cx cy ax ay bx b_y (by omega) (by omega) (by omega) (by omega) (by omega) (by omega) (by omega) (by omega) (by omega) (by omega) (by omega) (by omega) g2)) <| .nil _ _) ?_
  refine aw_p 255 (
    .a 4 9 <| .p (does_k [5, 8, 0] (shadd3A ax ay bx b_y cx cy dx dy ax ay bx b_y (by omega) (by omega) (by omega) (by omega) (by omega) (by omega) (by omega) (by omega) (by omega) (by omega) (by omega) (by omega) g3)) <| .nil _ _) ?_
  refine aw_p 511 (
    .a 2 9 <| .nil _ _) ?_
  refine aw_rt ?_
  exact en_ret [sV 0 4] (by kernel_rfl)
end Go.Proofs.Ytndkhgfecnbmnaa.Am
