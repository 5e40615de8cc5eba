/-
  The walk of the law FracRounded.
-/
import Derived.Test.YtngmegnaohmapaaDoorProg
import Derived.Test.YtngmegnaohmapaaDoorAm16
import Derived.Test.YtngmegnaohmapaaDoorCu3
import Derived.Test.YtngmegnaohmapaaDoorCu5
import Derived.Test.YtngmegnaohmapaaDoorFr5
import Derived.Test.YtngmegnaohmapaaDoorTx5
import Derived.Test.YtngmegnaohmapaaDoorNc7
namespace Go.Proofs.YtngmegnaohmapaaDoor.Am
open Go Go.Proofs
set_option maxRecDepth 100000
set_option maxHeartbeats 4000000
set_option linter.unusedVariables false
set_option linter.unusedSimpArgs false

theorem fracRounded_walk (x : Int) (zlx : -9223372036854775808 ≤ x) (zux : x ≤ 9223372036854775807) :
    ∀ w0, TabAt Tryd.prog "internal/strconv.uint64pow10" .u64 Lib.pow10Tab w0 → ACw Tryd.prog w0  4 0 ([.int .i64 x]) [] (.bool true) [] := by
  have fl := Sp.numb_floor x; have rn := Sp.numb_rnd x; have sm := Sp.numb_small x; have rh := Sp.rnd_half (Sp.numb x)
  intro w0 hx0
  refine acw_in Tryd.func4 (fun W pin hW => ?_)
  have hX : ∀ w', FrameOk w0 W w' → TabAt Tryd.prog "internal/strconv.uint64pow10" .u64 Lib.pow10Tab w' := fun w' hf => tab_stays hx0 hf (fun b hb => by obtain ⟨ρ, k, b, sp, hm, _⟩ := hW b hb; exact (List.not_mem_nil hm).elim)
  refine aw_p 3 (
    .a 1 1 <| .nil _ _) ?_
  refine aw_sq 6 7 ?_
  refine aw_p 13 (
    .p (does_c (terrkeep1_fracBegun_ok)) <| .a 1 1 <| .nil _ _) ?_
  refine aw_fl 27 ?_
  refine aw_sk ?_
  refine then_normal ?_
  refine aw_p 15 (
    .a 1 1 <| .p (does_c (number_ok x (by omega) (by omega))) <| .a 2 1 <| .nil _ _) ?_
  refine aw_d 31 (
    .a 1 2 <|
    .p (does_c ((by have h := ffloor_ok (Sp.qn (Sp.numb x)) (Sp.qd (Sp.numb x)) (by have := Sp.qn_bd (Sp.numb x); omega) (by have := Sp.qn_bd (Sp.numb x); omega) (by have := Sp.qd_bd (Sp.numb x); omega) (by have := Sp.qd_bd (Sp.numb x); omega); rw [(Sp.rv_fit (q := (Sp.numb x)) (Sp.bd_fit (Sp.numb_bd x) (by decide) (by decide)))] at h; exact h))) <|
    .a 1 2 <|
    .p (does_c ((by have h := fround_ok (Sp.qn (Sp.numb x)) (Sp.qd (Sp.numb x)) (by have := Sp.qn_bd (Sp.numb x); omega) (by have := Sp.qn_bd (Sp.numb x); omega) (by have := Sp.qd_bd (Sp.numb x); omega) (by have := Sp.qd_bd (Sp.numb x); omega); rw [(Sp.rv_fit (q := (Sp.numb x)) (Sp.bd_fit (Sp.numb_bd x) (by decide) (by decide)))] at h; exact h))) <|
    .a 2 2 <| .nil _ _) ?_
  refine aw_p 63 (
    .p (does_c ((by have q := fmake_ok 1 2 (by decide) (by decide) (by decide) (by decide); rw [Sp.mk12.1, Sp.mk12.2.1, Sp.mk12.2.2] at q; exact q))) <| .a 6 2 <| .nil _ _) ?_
  refine aw_d 127 (
    .a 2 3 <| .p (does_c ((by have h := fof_ok (Sp.rnd (Sp.numb x)); rw [Sp.mx_id (by omega)] at h; exact h))) <|
    .p (does_c ((by have h := fsub_ok (Sp.qn (Sp.numb x)) (Sp.qd (Sp.numb x)) (by have := Sp.qn_bd (Sp.numb x); omega) (by have := Sp.qn_bd (Sp.numb x); omega) (by have := Sp.qd_bd (Sp.numb x); omega) (by have := Sp.qd_bd (Sp.numb x); omega) (Sp.rnd (Sp.numb x)) 1 (by omega) (by omega) (by decide) (by decide); rw [(Sp.rv_fit (q := (Sp.numb x)) (Sp.bd_fit (Sp.numb_bd x) (by decide) (by decide))), (Sp.rv_int (Sp.rnd (Sp.numb x)) (by omega)), (Sp.qe_fit (q := ((Sp.numb x) + (-((Sp.rnd (Sp.numb x) : Int) : Rat)))) (Sp.bd_fit (Sp.Bd.add (Sp.numb_bd x) (Sp.Bd.neg (Sp.rnd_bd x))) (by decide) (by decide)))] at h; exact h))) <|
    .a 6 3 <| .nil _ _) ?_
  refine aw_p 255 (
    .a 1 4 <| .p (does_cw (fun w' hf => ftext_ok (Sp.qn (Sp.numb x)) (Sp.qd (Sp.numb x)) (by have := Sp.qn_bd (Sp.numb x); omega) (by have := Sp.qn_bd (Sp.numb x); omega) (by have := Sp.qd_bd (Sp.numb x); omega) (by have := Sp.qd_bd (Sp.numb x); omega) w' (hX w' hf))) <|
    .p (does_c ((by have q := fread_ok (Sp.frT (Sp.qn (Sp.numb x)) (Sp.qd (Sp.numb x))) (by have := Sp.frT_len (n := Sp.qn (Sp.numb x)) (d := Sp.qd (Sp.numb x)) (by omega) (by omega) (by omega); omega); have r := Sp.numb_back x; rw [r.1, r.2.1, r.2.2] at q; exact q))) <| .a 6 4 <| .nil _ _) ?_
  refine aw_sq 510 511 ?_
  refine aw_p 1021 (
    .a 9 5 <| .p (does_e false ((show (!(((Sp.qn (Sp.numb x)) == (Sp.qn (Sp.numb x))) && (((Sp.qd (Sp.numb x)) == (Sp.qd (Sp.numb x))) && true))) = false from (by simp)))) <| .a 1 5 <| .nil _ _) ?_
  refine aw_fl 2043 ?_
  refine aw_sk ?_
  refine then_normal ?_
  refine aw_d 1023 (
    .a 1 5 <| .p (does_c ((by have h := fof_ok ((Sp.numb x).floor); rw [Sp.mx_id (by omega)] at h; exact h))) <| .a 1 5 <|
    .p (does_c ((by have h := fcmp_ok ((Sp.numb x).floor) 1 (by omega) (by omega) (by decide) (by decide) (Sp.qn (Sp.numb x)) (Sp.qd (Sp.numb x)) (by have := Sp.qn_bd (Sp.numb x); omega) (by have := Sp.qn_bd (Sp.numb x); omega) (by have := Sp.qd_bd (Sp.numb x); omega) (by have := Sp.qd_bd (Sp.numb x); omega); rw [(Sp.rv_int ((Sp.numb x).floor) (by omega)), (Sp.rv_fit (q := (Sp.numb x)) (Sp.bd_fit (Sp.numb_bd x) (by decide) (by decide)))] at h; exact h))) <|
    .p (does_b true (((Sp.rcmp_le (((Sp.numb x).floor : Int) : Rat) (Sp.numb x))).trans (decide_eq_true (Sp.fl_le _)))) <| .a 3 5 <| .p (does_i (((Sp.numb x).floor) + 1) (wrap_i64 (by omega) (by omega)) .i64) <|
    .p (does_c ((by have h := fof_ok (((Sp.numb x).floor) + 1); rw [Sp.mx_id (by omega)] at h; exact h))) <|
    .p (does_c ((by have h := fcmp_ok (Sp.qn (Sp.numb x)) (Sp.qd (Sp.numb x)) (by have := Sp.qn_bd (Sp.numb x); omega) (by have := Sp.qn_bd (Sp.numb x); omega) (by have := Sp.qd_bd (Sp.numb x); omega) (by have := Sp.qd_bd (Sp.numb x); omega) (((Sp.numb x).floor) + 1) 1 (by omega) (by omega) (by decide) (by decide); rw [(Sp.rv_fit (q := (Sp.numb x)) (Sp.bd_fit (Sp.numb_bd x) (by decide) (by decide))), (Sp.rv_int (((Sp.numb x).floor) + 1) (by omega))] at h; exact h))) <|
    .p (does_b true (((Sp.rcmp_neg (Sp.numb x) ((((Sp.numb x).floor) + 1 : Int) : Rat))).trans (decide_eq_true (Sp.fl_lt1 _)))) <| .a 4 5 <|
    .p (does_c ((by have h := fcmp_ok (Sp.qn ((Sp.numb x) + (-((Sp.rnd (Sp.numb x) : Int) : Rat)))) (Sp.qd ((Sp.numb x) + (-((Sp.rnd (Sp.numb x) : Int) : Rat)))) (by have := Sp.qn_bd ((Sp.numb x) + (-((Sp.rnd (Sp.numb x) : Int) : Rat))); omega) (by have := Sp.qn_bd ((Sp.numb x) + (-((Sp.rnd (Sp.numb x) : Int) : Rat))); omega) (by have := Sp.qd_bd ((Sp.numb x) + (-((Sp.rnd (Sp.numb x) : Int) : Rat))); omega) (by have := Sp.qd_bd ((Sp.numb x) + (-((Sp.rnd (Sp.numb x) : Int) : Rat))); omega) 1 2 (by decide) (by decide) (by decide) (by decide); rw [(Sp.rv_fit (q := ((Sp.numb x) + (-((Sp.rnd (Sp.numb x) : Int) : Rat)))) (Sp.bd_fit (Sp.Bd.add (Sp.numb_bd x) (Sp.Bd.neg (Sp.rnd_bd x))) (by decide) (by decide)))] at h; exact h))) <|
    .p (does_b true (((Sp.rcmp_neg ((Sp.numb x) + (-((Sp.rnd (Sp.numb x) : Int) : Rat))) (Sp.rv 1 2))).trans (decide_eq_true rh.1))) <| .a 3 5 <| .p (does_c (fneg_ok 1 2 (by decide) (by decide) (by decide) (by decide))) <| .a 1 5 <|
    .p (does_c ((by have h := fcmp_ok (Sp.qn (-(Sp.rv 1 2))) (Sp.qd (-(Sp.rv 1 2))) (by decide +kernel) (by decide +kernel) (by decide +kernel) (by decide +kernel) (Sp.qn ((Sp.numb x) + (-((Sp.rnd (Sp.numb x) : Int) : Rat)))) (Sp.qd ((Sp.numb x) + (-((Sp.rnd (Sp.numb x) : Int) : Rat)))) (by have := Sp.qn_bd ((Sp.numb x) + (-((Sp.rnd (Sp.numb x) : Int) : Rat))); omega) (by have := Sp.qn_bd ((Sp.numb x) + (-((Sp.rnd (Sp.numb x) : Int) : Rat))); omega) (by have := Sp.qd_bd ((Sp.numb x) + (-((Sp.rnd (Sp.numb x) : Int) : Rat))); omega) (by have := Sp.qd_bd ((Sp.numb x) + (-((Sp.rnd (Sp.numb x) : Int) : Rat))); omega); rw [(Sp.rv_fit (q := (-(Sp.rv 1 2))) (Sp.fitq_neg (Sp.fits_rv (by omega) (by omega) (by omega)))), (Sp.rv_fit (q := ((Sp.numb x) + (-((Sp.rnd (Sp.numb x) : Int) : Rat)))) (Sp.bd_fit (Sp.Bd.add (Sp.numb_bd x) (Sp.Bd.neg (Sp.rnd_bd x))) (by decide) (by decide)))] at h; exact h))) <|
    .p (does_b true (((Sp.rcmp_le (-(Sp.rv 1 2)) ((Sp.numb x) + (-((Sp.rnd (Sp.numb x) : Int) : Rat))))).trans (decide_eq_true rh.2))) <| .a 2 5 <| .nil _ _) ?_
  refine aw_rt ?_
  exact en_ret [.bool true] (by kernel_rfl)


end Go.Proofs.YtngmegnaohmapaaDoor.Am
