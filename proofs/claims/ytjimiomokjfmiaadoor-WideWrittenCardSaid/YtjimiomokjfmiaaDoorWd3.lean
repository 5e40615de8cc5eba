/-
  The walks of the document's words of 128 bits.
-/
import Derived.Test.YtjimiomokjfmiaaDoorProg
import Derived.Test.YtjimiomokjfmiaaDoorAm16
import Derived.Test.YtjimiomokjfmiaaDoorWd2
namespace Go.Proofs.YtjimiomokjfmiaaDoor.Am
open Go Go.Proofs
set_option maxRecDepth 100000
set_option maxHeartbeats 4000000
set_option linter.unusedVariables false
set_option linter.unusedSimpArgs false

theorem lwide_ok (a : Int) (zla : -170141183460469231731687303715884105728 ≤ a) (zua : a < 170141183460469231731687303715884105728) :
    AC Tryd.prog 10 0 ([.agg #[.int .i64 (Sp.wh a), .int .u64 (Sp.wl a)]]) [] (lval a) [] := by
  have wla := Sp.wl_bd a; have wha := Sp.wh_bd a; have wia := Sp.wh_id zla zua; have wma : Sp.wl a = a % 18446744073709551616 := rfl; obtain ⟨g0, g1, g2⟩ := Sp.lw_dig zla zua
  refine ac_in Tryd.func10 (fun w0 W pin => ?_)
  refine aw_p 3 (
    .a 2 1 <| .nil _ _) ?_
  refine aw_p 7 (
    .a 2 3 <| .p (does_c (llof_ok (Sp.wh a) (by omega) (by omega))) <| .a 2 3 <| .nil _ _) ?_
  refine aw_p 15 (
    .a 2 4 <| .p (does_i ((Sp.wl a) % 4294967296) (Sp.umod wla.1) .u64) <| .a 2 4 <| .p (does_i ((Sp.wl a) / 4294967296) (Sp.ufd (by decide)) .u64) <| .a 3 4 <| .nil _ _) ?_
  refine aw_d 31 (
    .p (does_val (v' := .slice (some ⟨3, 2, none⟩) 5 0) (does_sarr (t := 29) (k := 3) (off := 0) (l := 2) (h := 7) (b := ⟨(lds (Sp.wh a)), 29, true, 1⟩) 7 1 5 (by kernel_rfl) (by kernel_rfl) (by kernel_rfl) (by kernel_rfl) (by decide) (by decide) (by decide) (by decide) (by decide)) (by kernel_rfl)) <|
    .p (does_val (v' := .slice (some ⟨3, 0, none⟩) 5 0) (does_sarr (t := 29) (k := 3) (off := 0) (l := 0) (h := 5) (b := ⟨(lds (Sp.wh a)), 29, true, 1⟩) 7 1 5 (by kernel_rfl) (by kernel_rfl) (by kernel_rfl) (by kernel_rfl) (by decide) (by decide) (by decide) (by decide) (by decide)) (by kernel_rfl)) <|
    .p (does_copy (k := 3) (off := 2) (n := 5) (k2 := 3) (off2 := 0) (n2 := 5) (z := 1) (b := ⟨(lds (Sp.wh a)), 29, true, 1⟩) (b2 := ⟨(lds (Sp.wh a)), 29, true, 1⟩) (by kernel_rfl) (by kernel_rfl) (by kernel_rfl) (by kernel_rfl)) <| .nil _ _) ?_
  refine aw_d 63 (
    .a 8 5 <| .nil _ _) ?_
  refine aw_p 127 (
    .a 2 5 <| .nil _ _) ?_
  refine aw_rt ?_
  exact en_ret [.agg #[.int .u64 ((Sp.wl a) % 4294967296), .int .u64 ((Sp.wl a) / 4294967296), .int .u64 (Sp.dgt (Sp.wh a) 0), .int .u64 (Sp.dgt (Sp.wh a) 1), .int .u64 (Sp.dgt (Sp.wh a) 2), .int .u64 (Sp.dgt (Sp.wh a) 3), .int .u64 (Sp.dgt (Sp.wh a) 4)]] (show (.agg #[.int .u64 ((Sp.wl a) % 4294967296), .int .u64 ((Sp.wl a) / 4294967296), .int .u64 (Sp.dgt (Sp.wh a) 0), .int .u64 (Sp.dgt (Sp.wh a) 1), .int .u64 (Sp.dgt (Sp.wh a) 2), .int .u64 (Sp.dgt (Sp.wh a) 3), .int .u64 (Sp.dgt (Sp.wh a) 4)] : Value) = (lval a) from (congrArg (fun z : List Value => Value.agg z.toArray) (lcons (congrArg (Value.int .u64) (show ((Sp.wl a) % 4294967296) = (Sp.dgt a 0) from by exact g0)) (lcons (congrArg (Value.int .u64) (show ((Sp.wl a) / 4294967296) = (Sp.dgt a 1) from by exact g1)) (lcons (congrArg (Value.int .u64) (show (Sp.dgt (Sp.wh a) 0) = (Sp.dgt a 2) from by exact g2 _)) (lcons (congrArg (Value.int .u64) (show (Sp.dgt (Sp.wh a) 1) = (Sp.dgt a 3) from by exact g2 _)) (lcons (congrArg (Value.int .u64) (show (Sp.dgt (Sp.wh a) 2) = (Sp.dgt a 4) from by exact g2 _)) (lcons (congrArg (Value.int .u64) (show (Sp.dgt (Sp.wh a) 3) = (Sp.dgt a 5) from by exact g2 _)) (lcons (congrArg (Value.int .u64) (show (Sp.dgt (Sp.wh a) 4) = (Sp.dgt a 6) from by exact g2 _)) rfl)))))))))

theorem lwd_ok (n : Int) :
    AC Tryd.prog 11 0 ([lval n]) [] (.agg #[.int .i64 (Sp.wh n), .int .u64 (Sp.wl n)]) [] := by
  refine ac_in Tryd.func11 (fun w0 W pin => ?_)
  refine aw_p 3 (
    .a 2 1 <| .nil _ _) ?_
  refine aw_p 7 (
    .a 2 3 <| .p (does_i ((Sp.dgt n 3) * 4294967296) (wrap_u64 (by have := Sp.dgt_bd n 3; omega) (by have := Sp.dgt_bd n 3; omega)) .u64) <| .a 2 3 <| .p (does_i (n / 18446744073709551616 % 18446744073709551616) ((Sp.or_dig n 2).trans (Sp.two_dig' n)) .u64) <| .p (does_i (Sp.wh n) (Sp.whi_of n) .i64) <|
    .a 2 3 <| .p (does_i ((Sp.dgt n 1) * 4294967296) (wrap_u64 (by have := Sp.dgt_bd n 1; omega) (by have := Sp.dgt_bd n 1; omega)) .u64) <| .a 2 3 <| .p (does_i (Sp.wl n) ((Sp.or_dig n 0).trans (Sp.two_dig n)) .u64) <| .a 2 3 <| .nil _ _) ?_
  refine aw_rt ?_
  exact en_ret [.agg #[.int .i64 (Sp.wh n), .int .u64 (Sp.wl n)]] (by kernel_rfl)

theorem lfits_ok (n : Int) (z0 : -13479973333575319897333507543509815336818572211270286240551805124608 ≤ n) (z1 : n < 13479973333575319897333507543509815336818572211270286240551805124608) :
    AC Tryd.prog 26 0 ([lval n]) [] (.bool (Sp.in128 n)) [] := by
  have hw := lwd_ok n; rw [← Sp.sw_wh n, ← Sp.sw_wl n] at hw; have sb := Sp.sw_bd n
  refine ac_in Tryd.func26 (fun w0 W pin => ?_)
  refine aw_p 3 (
    .a 2 1 <| .nil _ _) ?_
  refine aw_d 7 (
    .a 1 2 <| .p (does_c (hw)) <| .p (does_c (lwide_ok (Sp.sw n) (by omega) (by omega))) <| .a 1 2 <| .p (does_e (Sp.in128 n) (Sp.fits_eq z0 z1)) <| .a 1 2 <| .nil _ _) ?_
  refine aw_rt ?_
  exact en_ret [.bool (Sp.in128 n)] (by kernel_rfl)


end Go.Proofs.YtjimiomokjfmiaaDoor.Am
