/-
  The walks of the document's count of common points.
-/
import Derived.Test.YtigllakcfdoagaaProg
import Derived.Test.YtigllakcfdoagaaAm16
import Derived.Test.YtigllakcfdoagaaPt3
import Derived.Test.YtigllakcfdoagaaSm
namespace Go.Proofs.Ytigllakcfdoagaa.Am
open Go Go.Proofs
set_option maxRecDepth 100000
set_option maxHeartbeats 4000000
set_option linter.unusedVariables false
set_option linter.unusedSimpArgs false

theorem pindex0 (px py : Int) :
    AC Try.prog 121 0 ([.slice none 0 0, .agg #[.int .i64 px, .int .i64 py]]) [] (.int .i64 (Sp.ix2 [] px py)) [] := by
  refine ac_in Try.func121 (fun w0 W pin => ?_)
  refine aw_p 3 (
    .a 2 1 <| .nil _ _) ?_
  refine aw_sq 6 7 ?_
  refine aw_p 13 (
    .a 3 2 <| .nil _ _) ?_
  refine aw_bl 0 27 ?_
  refine aw_lp 55 ?_
  refine al_round ?_
  refine aw_p 111 (
    .a 1 2 <| .nil _ _) ?_
  refine aw_sq 222 223 ?_
  refine aw_fl 445 ?_
  refine aw_ex 0 ?_
  refine then_exit ?_
  refine then_exit ?_
  refine block_exit ?_
  refine then_normal ?_
  refine aw_p 15 (
    .a 1 2 <| .nil _ _) ?_
  refine aw_rt ?_
  exact en_ret [.int .i64 (-1)] (show (.int .i64 (-1) : Value) = (.int .i64 (Sp.ix2 [] px py)) from (congrArg (Value.int .i64) (show (-1) = (Sp.ix2 [] px py) from by (rfl))))

theorem pindex1 (x1 y1 px py : Int) :
    AC Try.prog 121 1 ([.slice (some ⟨0, 0, none⟩) 1 0, .agg #[.int .i64 px, .int .i64 py]]) [(0, ⟨[.int .i64 x1, .int .i64 y1], 24, true, 2⟩)] (.int .i64 (Sp.ix2 [(x1, y1)] px py)) [(0, ⟨[.int .i64 x1, .int .i64 y1], 24, true, 2⟩)] := by
  refine ac_in Try.func121 (fun w0 W pin => ?_)
  refine aw_p 3 (
    .a 2 1 <| .nil _ _) ?_
  refine aw_sq 6 7 ?_
  refine aw_p 13 (
    .a 3 2 <| .nil _ _) ?_
  refine aw_bl 0 27 ?_
  refine aw_lp 55 ?_
  refine al_round ?_
  refine aw_p 111 (
    .a 1 2 <| .nil _ _) ?_
  refine aw_sq 222 223 ?_
  refine aw_tr 444 ?_
  refine aw_sk ?_
  refine then_normal ?_
  refine aw_sq 446 447 ?_
  refine aw_bl 1 893 ?_
  refine aw_p 1787 (
    .a 2 2 <| .nil _ _) ?_
  refine aw_d 3575 (
    .a 5 2 <| .p (does_e ((px == x1) && ((py == y1) && true)) (rfl)) <| .nil _ _) ?_
  refine aw_cd 7150 7151 ((px == x1) && ((py == y1) && true)) (fun h1 => ?_) (fun h1 => ?_)
  · have h1p : ((px = x1 ∧ py = y1)) := by first | (simpa using h1) | (have h1q := h1; simp at h1q; omega) | (have h1q := bx1 h1; simp at h1q; omega)
    refine aw_p 14301 (
      .a 2 2 <| .nil _ _) ?_
    refine aw_rt ?_
    refine block_ret ?_
    refine then_ret ?_
    refine then_ret ?_
    refine block_ret ?_
    refine then_ret ?_
    exact en_ret [.int .i64 0] (show (.int .i64 0 : Value) = (.int .i64 (Sp.ix2 [(x1, y1)] px py)) from (congrArg (Value.int .i64) (show 0 = (Sp.ix2 [(x1, y1)] px py) from by (rw [Sp.ix2_hit _ h1]; first | done | rfl | decide))))
  · have h1p : ¬ ((px = x1 ∧ py = y1)) := by first | (simpa using h1) | (have h1q := h1; simp at h1q; omega) | (have h1q := bx2 h1; simp at h1q; omega)
    refine aw_sk ?_
    refine block_normal ?_
    refine then_normal ?_
    refine aw_p1 (
      .a 2 2 <| .nil _ _) ?_
    refine then_normal ?_
    refine al_round ?_
    refine aw_p 111 (
      .a 1 2 <| .nil _ _) ?_
    refine aw_sq 222 223 ?_
    refine aw_fl 445 ?_
    refine aw_ex 0 ?_
    refine then_exit ?_
    refine then_exit ?_
    refine block_exit ?_
    refine then_normal ?_
    refine aw_p 15 (
      .a 1 2 <| .nil _ _) ?_
    refine aw_rt ?_
    exact en_ret [.int .i64 (-1)] (show (.int .i64 (-1) : Value) = (.int .i64 (Sp.ix2 [(x1, y1)] px py)) from (congrArg (Value.int .i64) (show (-1) = (Sp.ix2 [(x1, y1)] px py) from by (rw [Sp.ix2_miss _ h1]; first | done | rfl | decide))))

theorem pindex2 (x1 y1 x2 y2 px py : Int) :
    AC Try.prog 121 1 ([.slice (some ⟨0, 0, none⟩) 2 0, .agg #[.int .i64 px, .int .i64 py]]) [(0, ⟨[.int .i64 x1, .int .i64 y1, .int .i64 x2, .int .i64 y2], 24, true, 2⟩)] (.int .i64 (Sp.ix2 [(x1, y1), (x2, y2)] px py)) [(0, ⟨[.int .i64 x1, .int .i64 y1, .int .i64 x2, .int .i64 y2], 24, true, 2⟩)] := by
  refine ac_in Try.func121 (fun w0 W pin => ?_)
  refine aw_p 3 (
    .a 2 1 <| .nil _ _) ?_
  refine aw_sq 6 7 ?_
  refine aw_p 13 (
    .a 3 2 <| .nil _ _) ?_
  refine aw_bl 0 27 ?_
  refine aw_lp 55 ?_
  refine al_round ?_
  refine aw_p 111 (
    .a 1 2 <| .nil _ _) ?_
  refine aw_sq 222 223 ?_
  refine aw_tr 444 ?_
  refine aw_sk ?_
  refine then_normal ?_
  refine aw_sq 446 447 ?_
  refine aw_bl 1 893 ?_
  refine aw_p 1787 (
    .a 2 2 <| .nil _ _) ?_
  refine aw_d 3575 (
    .a 5 2 <| .p (does_e ((px == x1) && ((py == y1) && true)) (rfl)) <| .nil _ _) ?_
  refine aw_cd 7150 7151 ((px == x1) && ((py == y1) && true)) (fun h1 => ?_) (fun h1 => ?_)
  · have h1p : ((px = x1 ∧ py = y1)) := by first | (simpa using h1) | (have h1q := h1; simp at h1q; omega) | (have h1q := bx1 h1; simp at h1q; omega)
    refine aw_p 14301 (
      .a 2 2 <| .nil _ _) ?_
    refine aw_rt ?_
    refine block_ret ?_
    refine then_ret ?_
    refine then_ret ?_
    refine block_ret ?_
    refine then_ret ?_
    exact en_ret [.int .i64 0] (show (.int .i64 0 : Value) = (.int .i64 (Sp.ix2 [(x1, y1), (x2, y2)] px py)) from (congrArg (Value.int .i64) (show 0 = (Sp.ix2 [(x1, y1), (x2, y2)] px py) from by (rw [Sp.ix2_hit _ h1]; first | done | rfl | decide))))
  · have h1p : ¬ ((px = x1 ∧ py = y1)) := by first | (simpa using h1) | (have h1q := h1; simp at h1q; omega) | (have h1q := bx2 h1; simp at h1q; omega)
    refine aw_sk ?_
    refine block_normal ?_
    refine then_normal ?_
    refine aw_p1 (
      .a 2 2 <| .nil _ _) ?_
    refine then_normal ?_
    refine al_round ?_
    refine aw_p 111 (
      .a 1 2 <| .nil _ _) ?_
    refine aw_sq 222 223 ?_
    refine aw_tr 444 ?_
    refine aw_sk ?_
    refine then_normal ?_
    refine aw_sq 446 447 ?_
    refine aw_bl 1 893 ?_
    refine aw_p 1787 (
      .a 2 2 <| .nil _ _) ?_
    refine aw_d 3575 (
      .a 5 2 <| .p (does_e ((px == x2) && ((py == y2) && true)) (rfl)) <| .nil _ _) ?_
    refine aw_cd 7150 7151 ((px == x2) && ((py == y2) && true)) (fun h2 => ?_) (fun h2 => ?_)
    · have h2p : ((px = x2 ∧ py = y2)) := by first | (simpa using h2) | (have h2q := h2; simp at h2q; omega) | (have h2q := bx1 h2; simp at h2q; omega)
      refine aw_p 14301 (
        .a 2 2 <| .nil _ _) ?_
      refine aw_rt ?_
      refine block_ret ?_
      refine then_ret ?_
      refine then_ret ?_
      refine block_ret ?_
      refine then_ret ?_
      exact en_ret [.int .i64 1] (show (.int .i64 1 : Value) = (.int .i64 (Sp.ix2 [(x1, y1), (x2, y2)] px py)) from (congrArg (Value.int .i64) (show 1 = (Sp.ix2 [(x1, y1), (x2, y2)] px py) from by (rw [Sp.ix2_miss _ h1, Sp.ix2_hit _ h2]; first | done | rfl | decide))))
    · have h2p : ¬ ((px = x2 ∧ py = y2)) := by first | (simpa using h2) | (have h2q := h2; simp at h2q; omega) | (have h2q := bx2 h2; simp at h2q; omega)
      refine aw_sk ?_
      refine block_normal ?_
      refine then_normal ?_
      refine aw_p1 (
        .a 2 2 <| .nil _ _) ?_
      refine then_normal ?_
      refine al_round ?_
      refine aw_p 111 (
        .a 1 2 <| .nil _ _) ?_
      refine aw_sq 222 223 ?_
      refine aw_fl 445 ?_
      refine aw_ex 0 ?_
      refine then_exit ?_
      refine then_exit ?_
      refine block_exit ?_
      refine then_normal ?_
      refine aw_p 15 (
        .a 1 2 <| .nil _ _) ?_
      refine aw_rt ?_
      exact en_ret [.int .i64 (-1)] (show (.int .i64 (-1) : Value) = (.int .i64 (Sp.ix2 [(x1, y1), (x2, y2)] px py)) from (congrArg (Value.int .i64) (show (-1) = (Sp.ix2 [(x1, y1), (x2, y2)] px py) from by (rw [Sp.ix2_miss _ h1, Sp.ix2_miss _ h2]; first | done | rfl | decide))))

theorem pindex3 (x1 y1 x2 y2 x3 y3 px py : Int) :
    AC Try.prog 121 1 ([.slice (some ⟨0, 0, none⟩) 3 0, .agg #[.int .i64 px, .int .i64 py]]) [(0, ⟨[.int .i64 x1, .int .i64 y1, .int .i64 x2, .int .i64 y2, .int .i64 x3, .int .i64 y3], 24, true, 2⟩)] (.int .i64 (Sp.ix2 [(x1, y1), (x2, y2), (x3, y3)] px py)) [(0, ⟨[.int .i64 x1, .int .i64 y1, .int .i64 x2, .int .i64 y2, .int .i64 x3, .int .i64 y3], 24, true, 2⟩)] := by
  refine ac_in Try.func121 (fun w0 W pin => ?_)
  refine aw_p 3 (
    .a 2 1 <| .nil _ _) ?_
  refine aw_sq 6 7 ?_
  refine aw_p 13 (
    .a 3 2 <| .nil _ _) ?_
  refine aw_bl 0 27 ?_
  refine aw_lp 55 ?_
  refine al_round ?_
  refine aw_p 111 (
    .a 1 2 <| .nil _ _) ?_
  refine aw_sq 222 223 ?_
  refine aw_tr 444 ?_
  refine aw_sk ?_
  refine then_normal ?_
  refine aw_sq 446 447 ?_
  refine aw_bl 1 893 ?_
  refine aw_p 1787 (
    .a 2 2 <| .nil _ _) ?_
  refine aw_d 3575 (
    .a 5 2 <| .p (does_e ((px == x1) && ((py == y1) && true)) (rfl)) <| .nil _ _) ?_
  refine aw_cd 7150 7151 ((px == x1) && ((py == y1) && true)) (fun h1 => ?_) (fun h1 => ?_)
  · have h1p : ((px = x1 ∧ py = y1)) := by first | (simpa using h1) | (have h1q := h1; simp at h1q; omega) | (have h1q := bx1 h1; simp at h1q; omega)
    refine aw_p 14301 (
      .a 2 2 <| .nil _ _) ?_
    refine aw_rt ?_
    refine block_ret ?_
    refine then_ret ?_
    refine then_ret ?_
    refine block_ret ?_
    refine then_ret ?_
    exact en_ret [.int .i64 0] (show (.int .i64 0 : Value) = (.int .i64 (Sp.ix2 [(x1, y1), (x2, y2), (x3, y3)] px py)) from (congrArg (Value.int .i64) (show 0 = (Sp.ix2 [(x1, y1), (x2, y2), (x3, y3)] px py) from by (rw [Sp.ix2_hit _ h1]; first | done | rfl | decide))))
  · have h1p : ¬ ((px = x1 ∧ py = y1)) := by first | (simpa using h1) | (have h1q := h1; simp at h1q; omega) | (have h1q := bx2 h1; simp at h1q; omega)
    refine aw_sk ?_
    refine block_normal ?_
    refine then_normal ?_
    refine aw_p1 (
      .a 2 2 <| .nil _ _) ?_
    refine then_normal ?_
    refine al_round ?_
    refine aw_p 111 (
      .a 1 2 <| .nil _ _) ?_
    refine aw_sq 222 223 ?_
    refine aw_tr 444 ?_
    refine aw_sk ?_
    refine then_normal ?_
    refine aw_sq 446 447 ?_
    refine aw_bl 1 893 ?_
    refine aw_p 1787 (
      .a 2 2 <| .nil _ _) ?_
    refine aw_d 3575 (
      .a 5 2 <| .p (does_e ((px == x2) && ((py == y2) && true)) (rfl)) <| .nil _ _) ?_
    refine aw_cd 7150 7151 ((px == x2) && ((py == y2) && true)) (fun h2 => ?_) (fun h2 => ?_)
    · have h2p : ((px = x2 ∧ py = y2)) := by first | (simpa using h2) | (have h2q := h2; simp at h2q; omega) | (have h2q := bx1 h2; simp at h2q; omega)
      refine aw_p 14301 (
        .a 2 2 <| .nil _ _) ?_
      refine aw_rt ?_
      refine block_ret ?_
      refine then_ret ?_
      refine then_ret ?_
      refine block_ret ?_
      refine then_ret ?_
      exact en_ret [.int .i64 1] (show (.int .i64 1 : Value) = (.int .i64 (Sp.ix2 [(x1, y1), (x2, y2), (x3, y3)] px py)) from (congrArg (Value.int .i64) (show 1 = (Sp.ix2 [(x1, y1), (x2, y2), (x3, y3)] px py) from by (rw [Sp.ix2_miss _ h1, Sp.ix2_hit _ h2]; first | done | rfl | decide))))
    · have h2p : ¬ ((px = x2 ∧ py = y2)) := by first | (simpa using h2) | (have h2q := h2; simp at h2q; omega) | (have h2q := bx2 h2; simp at h2q; omega)
      refine aw_sk ?_
      refine block_normal ?_
      refine then_normal ?_
      refine aw_p1 (
        .a 2 2 <| .nil _ _) ?_
      refine then_normal ?_
      refine al_round ?_
      refine aw_p 111 (
        .a 1 2 <| .nil _ _) ?_
      refine aw_sq 222 223 ?_
      refine aw_tr 444 ?_
      refine aw_sk ?_
      refine then_normal ?_
      refine aw_sq 446 447 ?_
      refine aw_bl 1 893 ?_
      refine aw_p 1787 (
        .a 2 2 <| .nil _ _) ?_
      refine aw_d 3575 (
        .a 5 2 <| .p (does_e ((px == x3) && ((py == y3) && true)) (rfl)) <| .nil _ _) ?_
      refine aw_cd 7150 7151 ((px == x3) && ((py == y3) && true)) (fun h3 => ?_) (fun h3 => ?_)
      · have h3p : ((px = x3 ∧ py = y3)) := by first | (simpa using h3) | (have h3q := h3; simp at h3q; omega) | (have h3q := bx1 h3; simp at h3q; omega)
        refine aw_p 14301 (
          .a 2 2 <| .nil _ _) ?_
        refine aw_rt ?_
        refine block_ret ?_
        refine then_ret ?_
        refine then_ret ?_
        refine block_ret ?_
        refine then_ret ?_
        exact en_ret [.int .i64 2] (show (.int .i64 2 : Value) = (.int .i64 (Sp.ix2 [(x1, y1), (x2, y2), (x3, y3)] px py)) from (congrArg (Value.int .i64) (show 2 = (Sp.ix2 [(x1, y1), (x2, y2), (x3, y3)] px py) from by (rw [Sp.ix2_miss _ h1, Sp.ix2_miss _ h2, Sp.ix2_hit _ h3]; first | done | rfl | decide))))
      · have h3p : ¬ ((px = x3 ∧ py = y3)) := by first | (simpa using h3) | (have h3q := h3; simp at h3q; omega) | (have h3q := bx2 h3; simp at h3q; omega)
        refine aw_sk ?_
        refine block_normal ?_
        refine then_normal ?_
        refine aw_p1 (
          .a 2 2 <| .nil _ _) ?_
        refine then_normal ?_
        refine al_round ?_
        refine aw_p 111 (
          .a 1 2 <| .nil _ _) ?_
        refine aw_sq 222 223 ?_
        refine aw_fl 445 ?_
        refine aw_ex 0 ?_
        refine then_exit ?_
        refine then_exit ?_
        refine block_exit ?_
        refine then_normal ?_
        refine aw_p 15 (
          .a 1 2 <| .nil _ _) ?_
        refine aw_rt ?_
        exact en_ret [.int .i64 (-1)] (show (.int .i64 (-1) : Value) = (.int .i64 (Sp.ix2 [(x1, y1), (x2, y2), (x3, y3)] px py)) from (congrArg (Value.int .i64) (show (-1) = (Sp.ix2 [(x1, y1), (x2, y2), (x3, y3)] px py) from by (rw [Sp.ix2_miss _ h1, Sp.ix2_miss _ h2, Sp.ix2_miss _ h3]; first | done | rfl | decide))))


end Go.Proofs.Ytigllakcfdoagaa.Am
