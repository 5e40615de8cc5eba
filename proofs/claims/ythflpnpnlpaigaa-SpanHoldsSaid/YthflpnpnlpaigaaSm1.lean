/-
  Spans of small numbers.
-/
import Derived.Test.YthflpnpnlpaigaaProg
import Derived.Test.YthflpnpnlpaigaaAm13
import Derived.Test.YthflpnpnlpaigaaFr5
import Derived.Test.YthflpnpnlpaigaaSn5
import Derived.Test.YthflpnpnlpaigaaSn8
import Derived.Test.YthflpnpnlpaigaaNc7
namespace Go.Proofs.Ythflpnpnlpaigaa.Am
open Go Go.Proofs
set_option maxRecDepth 100000
set_option maxHeartbeats 4000000
set_option linter.unusedVariables false
set_option linter.unusedSimpArgs false

theorem terrkeep1_spanBegun_ok  :
    AC Try.prog 66 0 ([]) [] (.bool true) [] := by
  refine ac_in Try.func66 (fun w0 W pin => ?_)
  refine aw_p 3 (
    .a 1 1 <| .nil _ _) ?_
  refine aw_p 7 (
    .p (does_c (fof_ok (-1))) <| .p (does_c (fof_ok 2)) <| .a 1 1 <| .p (does_c (fof_ok (-3))) <| .p (does_c (fof_ok 5)) <| .a 1 1 <|
    .p (does_c ((by have h := smul_ok (-1) 1 (by decide) (by decide) (by decide) (by decide) 2 1 (by decide) (by decide) (by decide) (by decide) (-3) 1 (by decide) (by decide) (by decide) (by decide) 5 1 (by decide) (by decide) (by decide) (by decide); rw [show (Sp.m4n ((Sp.sl (-1) 1 2 1) * (Sp.sl (-3) 1 5 1)) ((Sp.sl (-1) 1 2 1) * (Sp.sh (-3) 1 5 1)) ((Sp.sh (-1) 1 2 1) * (Sp.sl (-3) 1 5 1)) ((Sp.sh (-1) 1 2 1) * (Sp.sh (-3) 1 5 1)) : Int) = (-6) from by decide +kernel, show (Sp.m4d ((Sp.sl (-1) 1 2 1) * (Sp.sl (-3) 1 5 1)) ((Sp.sl (-1) 1 2 1) * (Sp.sh (-3) 1 5 1)) ((Sp.sh (-1) 1 2 1) * (Sp.sl (-3) 1 5 1)) ((Sp.sh (-1) 1 2 1) * (Sp.sh (-3) 1 5 1)) : Int) = 1 from by decide +kernel, show (Sp.x4n ((Sp.sl (-1) 1 2 1) * (Sp.sl (-3) 1 5 1)) ((Sp.sl (-1) 1 2 1) * (Sp.sh (-3) 1 5 1)) ((Sp.sh (-1) 1 2 1) * (Sp.sl (-3) 1 5 1)) ((Sp.sh (-1) 1 2 1) * (Sp.sh (-3) 1 5 1)) : Int) = 10 from by decide +kernel, show (Sp.x4d ((Sp.sl (-1) 1 2 1) * (Sp.sl (-3) 1 5 1)) ((Sp.sl (-1) 1 2 1) * (Sp.sh (-3) 1 5 1)) ((Sp.sh (-1) 1 2 1) * (Sp.sl (-3) 1 5 1)) ((Sp.sh (-1) 1 2 1) * (Sp.sh (-3) 1 5 1)) : Int) = 1 from by decide +kernel, show (Sp.e4 ((Sp.sl (-1) 1 2 1) * (Sp.sl (-3) 1 5 1)) ((Sp.sl (-1) 1 2 1) * (Sp.sh (-3) 1 5 1)) ((Sp.sh (-1) 1 2 1) * (Sp.sl (-3) 1 5 1)) ((Sp.sh (-1) 1 2 1) * (Sp.sh (-3) 1 5 1)) : Int) = 0 from by decide +kernel] at h; exact h))) <|
    .a 6 1 <| .nil _ _) ?_
  refine aw_d 15 (
    .p (does_c (terrkeep1_fracBegun_ok)) <| .a 6 2 <| .p (does_c (fof_ok (-6))) <| .p (does_c (fof_ok 10)) <| .a 1 2 <| .p (does_e true ((show ((((-6) == (-6)) && ((1 == 1) && true)) && (((10 == 10) && ((1 == 1) && true)) && true)) = true from by decide))) <| .a 3 2 <| .p (does_c (fof_ok 10)) <|
    .p (does_c ((by have h := shas_ok (-6) 1 (by decide) (by decide) (by decide) (by decide) 10 1 (by decide) (by decide) (by decide) (by decide) 10 1 (by decide) (by decide) (by decide) (by decide); rw [show Sp.inS (Sp.sl (-6) 1 10 1) (Sp.sh (-6) 1 10 1) (Sp.rv 10 1) = true from by decide +kernel] at h; exact h))) <|
    .a 3 2 <| .p (does_c (fof_ok 11)) <|
    .p (does_c ((by have h := shas_ok (-6) 1 (by decide) (by decide) (by decide) (by decide) 10 1 (by decide) (by decide) (by decide) (by decide) 11 1 (by decide) (by decide) (by decide) (by decide); rw [show Sp.inS (Sp.sl (-6) 1 10 1) (Sp.sh (-6) 1 10 1) (Sp.rv 11 1) = false from by decide +kernel] at h; exact h))) <|
    .a 3 2 <| .nil _ _) ?_
  refine aw_w [(0, .bool true), (1, .pointer (some ⟨1, 0, none⟩)), (3, .tuple #[.agg #[.int .i64 (-6), .int .i64 1, .int .i64 10, .int .i64 1], .int .i64 0]), (4, .agg #[.int .i64 (-1), .int .i64 1]), (5, .agg #[.int .i64 2, .int .i64 1]), (6, .agg #[.int .i64 (-1), .int .i64 1, .int .i64 2, .int .i64 1]), (7, .agg #[.int .i64 (-3), .int .i64 1]), (8, .agg #[.int .i64 5, .int .i64 1]), (9, .agg #[.int .i64 (-3), .int .i64 1, .int .i64 5, .int .i64 1]), (10, .tuple #[.agg #[.int .i64 (-6), .int .i64 1, .int .i64 10, .int .i64 1], .int .i64 0]), (11, .agg #[.int .i64 (-6), .int .i64 1, .int .i64 10, .int .i64 1]), (12, .int .i64 0)] [(1, ⟨[.int .i64 (-6), .int .i64 1, .int .i64 10, .int .i64 1], 50, true, 4⟩)] ?_
  refine aw_rt ?_
  exact en_ret [.bool true] (by kernel_rfl)

theorem made_ok (x : Int) (zlx : -9223372036854775808 ≤ x) (zux : x ≤ 9223372036854775807) (y : Int) (zly : -9223372036854775808 ≤ y) (zuy : y ≤ 9223372036854775807) :
    AC Try.prog 67 0 ([.int .i64 x, .int .i64 y]) [] (.agg #[.int .i64 (Sp.qn (Sp.ml x y)), .int .i64 (Sp.qd (Sp.ml x y)), .int .i64 (Sp.qn (Sp.mh x y)), .int .i64 (Sp.qd (Sp.mh x y))]) [] := by
  refine ac_in Try.func67 (fun w0 W pin => ?_)
  refine aw_p 3 (
    .a 1 1 <| .nil _ _) ?_
  refine aw_p 7 (
    .a 1 2 <| .p (does_c (number_ok x (by omega) (by omega))) <| .a 1 2 <| .p (does_c (number_ok y (by omega) (by omega))) <| .a 4 2 <| .nil _ _) ?_
  refine aw_d 15 (
    .a 2 4 <|
    .p (does_c ((by have h := fmin_ok (Sp.qn (Sp.numb x)) (Sp.qd (Sp.numb x)) (by have := Sp.qn_bd (Sp.numb x); omega) (by have := Sp.qn_bd (Sp.numb x); omega) (by have := Sp.qd_bd (Sp.numb x); omega) (by have := Sp.qd_bd (Sp.numb x); omega) (Sp.qn (Sp.numb y)) (Sp.qd (Sp.numb y)) (by have := Sp.qn_bd (Sp.numb y); omega) (by have := Sp.qn_bd (Sp.numb y); omega) (by have := Sp.qd_bd (Sp.numb y); omega) (by have := Sp.qd_bd (Sp.numb y); omega); rw [(Sp.rv_fit (q := (Sp.numb x)) (Sp.bd_fit (Sp.numb_bd x) (by decide) (by decide))), (Sp.rv_fit (q := (Sp.numb y)) (Sp.bd_fit (Sp.numb_bd y) (by decide) (by decide)))] at h; exact h))) <|
    .a 2 4 <|
    .p (does_c ((by have h := fmax_ok (Sp.qn (Sp.numb x)) (Sp.qd (Sp.numb x)) (by have := Sp.qn_bd (Sp.numb x); omega) (by have := Sp.qn_bd (Sp.numb x); omega) (by have := Sp.qd_bd (Sp.numb x); omega) (by have := Sp.qd_bd (Sp.numb x); omega) (Sp.qn (Sp.numb y)) (Sp.qd (Sp.numb y)) (by have := Sp.qn_bd (Sp.numb y); omega) (by have := Sp.qn_bd (Sp.numb y); omega) (by have := Sp.qd_bd (Sp.numb y); omega) (by have := Sp.qd_bd (Sp.numb y); omega); rw [(Sp.rv_fit (q := (Sp.numb x)) (Sp.bd_fit (Sp.numb_bd x) (by decide) (by decide))), (Sp.rv_fit (q := (Sp.numb y)) (Sp.bd_fit (Sp.numb_bd y) (by decide) (by decide)))] at h; exact h))) <|
    .a 2 4 <| .nil _ _) ?_
  refine aw_rt ?_
  exact en_ret [.agg #[.int .i64 (Sp.qn (Sp.rmin (Sp.numb x) (Sp.numb y))), .int .i64 (Sp.qd (Sp.rmin (Sp.numb x) (Sp.numb y))), .int .i64 (Sp.qn (Sp.rmax (Sp.numb x) (Sp.numb y))), .int .i64 (Sp.qd (Sp.rmax (Sp.numb x) (Sp.numb y)))]] (show (.agg #[.int .i64 (Sp.qn (Sp.rmin (Sp.numb x) (Sp.numb y))), .int .i64 (Sp.qd (Sp.rmin (Sp.numb x) (Sp.numb y))), .int .i64 (Sp.qn (Sp.rmax (Sp.numb x) (Sp.numb y))), .int .i64 (Sp.qd (Sp.rmax (Sp.numb x) (Sp.numb y)))] : Value) = (.agg #[.int .i64 (Sp.qn (Sp.ml x y)), .int .i64 (Sp.qd (Sp.ml x y)), .int .i64 (Sp.qn (Sp.mh x y)), .int .i64 (Sp.qd (Sp.mh x y))]) from (congrArg (fun z : List Value => Value.agg z.toArray) (lcons (congrArg (Value.int .i64) (show (Sp.qn (Sp.rmin (Sp.numb x) (Sp.numb y))) = (Sp.qn (Sp.ml x y)) from by rfl)) (lcons (congrArg (Value.int .i64) (show (Sp.qd (Sp.rmin (Sp.numb x) (Sp.numb y))) = (Sp.qd (Sp.ml x y)) from by rfl)) (lcons (congrArg (Value.int .i64) (show (Sp.qn (Sp.rmax (Sp.numb x) (Sp.numb y))) = (Sp.qn (Sp.mh x y)) from by rfl)) (lcons (congrArg (Value.int .i64) (show (Sp.qd (Sp.rmax (Sp.numb x) (Sp.numb y))) = (Sp.qd (Sp.mh x y)) from by rfl)) rfl))))))

theorem part_ok (p q : Rat) (bl : Sp.Bd 70 7 p) (bh : Sp.Bd 70 7 q) (k : Int) (zlk : -9223372036854775808 ≤ k) (zuk : k ≤ 9223372036854775807) :
    AC Try.prog 69 0 ([.agg #[.int .i64 (Sp.qn p), .int .i64 (Sp.qd p), .int .i64 (Sp.qn q), .int .i64 (Sp.qd q)], .int .i64 k]) [] (.agg #[.int .i64 (Sp.qn (Sp.pt p q k)), .int .i64 (Sp.qd (Sp.pt p q k))]) [] := by
  refine ac_in Try.func69 (fun w0 W pin => ?_)
  refine aw_p 3 (
    .a 2 1 <| .nil _ _) ?_
  refine aw_p 7 (
    .a 1 3 <| .p (does_c (below_ok k 9 (by decide) (by decide))) <|
    .p (does_c ((by have h := fmake_ok (k % 9) 8 (by omega) (by omega) (by decide) (by decide); rw [(Sp.dv_yes (a := (((k % 9) : Int) : Rat)) Sp.eight_ne).1, (Sp.dv_yes (a := (((k % 9) : Int) : Rat)) Sp.eight_ne).2.1, (Sp.dv_yes (a := (((k % 9) : Int) : Rat)) Sp.eight_ne).2.2, (Sp.qe_fit (q := (((k % 9) : Int) : Rat) / ((8 : Int) : Rat)) (Sp.bd_fit (Sp.Bd.div (Sp.by_bd k) (Sp.Bd.int 8) Sp.eight_ne) (by decide) (by decide)))] at h; exact h))) <|
    .a 6 3 <| .nil _ _) ?_
  refine aw_p 15 (
    .a 4 4 <|
    .p (does_c ((by have h := fsub_ok (Sp.qn q) (Sp.qd q) (by have := Sp.qn_bd q; omega) (by have := Sp.qn_bd q; omega) (by have := Sp.qd_bd q; omega) (by have := Sp.qd_bd q; omega) (Sp.qn p) (Sp.qd p) (by have := Sp.qn_bd p; omega) (by have := Sp.qn_bd p; omega) (by have := Sp.qd_bd p; omega) (by have := Sp.qd_bd p; omega); rw [(Sp.rv_fit (q := q) (Sp.bd_fit bh (by decide) (by decide))), (Sp.rv_fit (q := p) (Sp.bd_fit bl (by decide) (by decide))), (Sp.qe_fit (q := ((q) + (-(p)))) (Sp.bd_fit (Sp.Bd.add bh (Sp.Bd.neg bl)) (by decide) (by decide)))] at h; exact h))) <|
    .a 6 4 <| .nil _ _) ?_
  refine aw_d 31 (
    .a 4 5 <|
    .p (does_c ((by have h := kproduct_ok (Sp.qn ((((k % 9) : Int) : Rat) / ((8 : Int) : Rat))) (Sp.qd ((((k % 9) : Int) : Rat) / ((8 : Int) : Rat))) (by have := Sp.qn_bd ((((k % 9) : Int) : Rat) / ((8 : Int) : Rat)); omega) (by have := Sp.qn_bd ((((k % 9) : Int) : Rat) / ((8 : Int) : Rat)); omega) (by have := Sp.qd_bd ((((k % 9) : Int) : Rat) / ((8 : Int) : Rat)); omega) (by have := Sp.qd_bd ((((k % 9) : Int) : Rat) / ((8 : Int) : Rat)); omega) (Sp.qn ((q) + (-(p)))) (Sp.qd ((q) + (-(p)))) (by have := Sp.qn_bd ((q) + (-(p))); omega) (by have := Sp.qn_bd ((q) + (-(p))); omega) (by have := Sp.qd_bd ((q) + (-(p))); omega) (by have := Sp.qd_bd ((q) + (-(p))); omega); rw [(Sp.rv_fit (q := ((((k % 9) : Int) : Rat) / ((8 : Int) : Rat))) (Sp.bd_fit (Sp.Bd.div (Sp.by_bd k) (Sp.Bd.int 8) Sp.eight_ne) (by decide) (by decide))), (Sp.rv_fit (q := ((q) + (-(p)))) (Sp.bd_fit (Sp.Bd.add bh (Sp.Bd.neg bl)) (by decide) (by decide)))] at h; exact h))) <|
    .p (does_c ((by have h := ksum_ok (Sp.qn p) (Sp.qd p) (by have := Sp.qn_bd p; omega) (by have := Sp.qn_bd p; omega) (by have := Sp.qd_bd p; omega) (by have := Sp.qd_bd p; omega) (Sp.qn (((((k % 9) : Int) : Rat) / ((8 : Int) : Rat)) * ((q) + (-(p))))) (Sp.qd (((((k % 9) : Int) : Rat) / ((8 : Int) : Rat)) * ((q) + (-(p))))) (by have := Sp.qn_bd (((((k % 9) : Int) : Rat) / ((8 : Int) : Rat)) * ((q) + (-(p)))); omega) (by have := Sp.qn_bd (((((k % 9) : Int) : Rat) / ((8 : Int) : Rat)) * ((q) + (-(p)))); omega) (by have := Sp.qd_bd (((((k % 9) : Int) : Rat) / ((8 : Int) : Rat)) * ((q) + (-(p)))); omega) (by have := Sp.qd_bd (((((k % 9) : Int) : Rat) / ((8 : Int) : Rat)) * ((q) + (-(p)))); omega); rw [(Sp.rv_fit (q := p) (Sp.bd_fit bl (by decide) (by decide))), (Sp.rv_fit (q := (((((k % 9) : Int) : Rat) / ((8 : Int) : Rat)) * ((q) + (-(p))))) (Sp.bd_fit (Sp.Bd.mul (Sp.Bd.div (Sp.by_bd k) (Sp.Bd.int 8) Sp.eight_ne) (Sp.Bd.add bh (Sp.Bd.neg bl))) (by decide) (by decide)))] at h; exact h))) <|
    .a 1 5 <| .nil _ _) ?_
  refine aw_rt ?_
  exact en_ret [.agg #[.int .i64 (Sp.qn ((p) + (((((k % 9) : Int) : Rat) / ((8 : Int) : Rat)) * ((q) + (-(p)))))), .int .i64 (Sp.qd ((p) + (((((k % 9) : Int) : Rat) / ((8 : Int) : Rat)) * ((q) + (-(p))))))]] (show (.agg #[.int .i64 (Sp.qn ((p) + (((((k % 9) : Int) : Rat) / ((8 : Int) : Rat)) * ((q) + (-(p)))))), .int .i64 (Sp.qd ((p) + (((((k % 9) : Int) : Rat) / ((8 : Int) : Rat)) * ((q) + (-(p))))))] : Value) = (.agg #[.int .i64 (Sp.qn (Sp.pt p q k)), .int .i64 (Sp.qd (Sp.pt p q k))]) from (congrArg (fun z : List Value => Value.agg z.toArray) (lcons (congrArg (Value.int .i64) (show (Sp.qn ((p) + (((((k % 9) : Int) : Rat) / ((8 : Int) : Rat)) * ((q) + (-(p)))))) = (Sp.qn (Sp.pt p q k)) from by (unfold Sp.pt; rfl))) (lcons (congrArg (Value.int .i64) (show (Sp.qd ((p) + (((((k % 9) : Int) : Rat) / ((8 : Int) : Rat)) * ((q) + (-(p)))))) = (Sp.qd (Sp.pt p q k)) from by (unfold Sp.pt; rfl))) rfl))))


end Go.Proofs.Ythflpnpnlpaigaa.Am
