/-
  The walk of the law Names.
-/
import Derived.Test.YtjimiomokjfmiaaProg
import Derived.Test.YtjimiomokjfmiaaAm13
import Derived.Test.YtjimiomokjfmiaaWd3
namespace Go.Proofs.Ytjimiomokjfmiaa.Am
open Go Go.Proofs
set_option maxRecDepth 100000
set_option maxHeartbeats 4000000
set_option linter.unusedVariables false
set_option linter.unusedSimpArgs false

theorem names_walk  :
    AC Try.prog 3 0 ([]) [] (.bool true) [] := by
  refine ac_in Try.func3 (fun w0 W pin => ?_)
  refine aw_p 3 (
    .a 1 1 <| .nil _ _) ?_
  refine aw_p 7 (
    .a 2 1 <| .nil _ _) ?_
  refine aw_sq 14 15 ?_
  refine aw_p 29 (
    .a 3 2 <| .nil _ _) ?_
  refine aw_bl 0 59 ?_
  refine aw_lp 119 ?_
  refine al_round ?_
  refine aw_p 239 (
    .a 1 2 <| .nil _ _) ?_
  refine aw_sq 478 479 ?_
  refine aw_tr 956 ?_
  refine aw_sk ?_
  refine then_normal ?_
  refine aw_sq 958 959 ?_
  refine aw_bl 1 1917 ?_
  refine aw_p 3835 (
    .a 5 2 <| .nil _ _) ?_
  refine aw_p 7671 (
    .a 3 2 <| .nil _ _) ?_
  refine aw_fl 15343 ?_
  refine aw_sk ?_
  refine block_normal ?_
  refine then_normal ?_
  refine aw_p1 (
    .a 2 2 <| .nil _ _) ?_
  refine then_normal ?_
  refine al_round ?_
  refine aw_p 239 (
    .a 1 2 <| .nil _ _) ?_
  refine aw_sq 478 479 ?_
  refine aw_tr 956 ?_
  refine aw_sk ?_
  refine then_normal ?_
  refine aw_sq 958 959 ?_
  refine aw_bl 1 1917 ?_
  refine aw_p 3835 (
    .a 5 2 <| .nil _ _) ?_
  refine aw_p 7671 (
    .a 3 2 <| .nil _ _) ?_
  refine aw_w [(0, .bool false), (1, .slice (some ⟨1, 0, none⟩) 20 0), (2, .int .i64 1), (3, .int .i64 1), (4, .slice (some ⟨1, 0, none⟩) 20 0), (5, .slice (some ⟨1, 0, none⟩) 20 0), (6, .int .i64 20), (7, .int .i64 1), (8, .bool true), (9, .int .i64 1), (10, .pointer (some ⟨1, 1, none⟩)), (11, .int .i64 1), (12, .int .i64 1), (13, .int .i64 1), (14, .bool false), (15, .int .i64 1)] [(1, ⟨[.int .i64 0, .int .i64 1, .int .i64 2, .int .i64 3, .int .i64 4, .int .i64 5, .int .i64 6, .int .i64 7, .int .i64 8, .int .i64 9, .int .i64 10, .int .i64 11, .int .i64 12, .int .i64 13, .int .i64 14, .int .i64 15, .int .i64 16, .int .i64 17, .int .i64 18, .int .i64 19], 22, true, 1⟩)] ?_
  refine aw_fl 15343 ?_
  refine aw_sk ?_
  refine block_normal ?_
  refine then_normal ?_
  refine aw_p1 (
    .a 2 2 <| .nil _ _) ?_
  refine then_normal ?_
  refine al_round ?_
  refine aw_p 239 (
    .a 1 2 <| .nil _ _) ?_
  refine aw_sq 478 479 ?_
  refine aw_tr 956 ?_
  refine aw_sk ?_
  refine then_normal ?_
  refine aw_sq 958 959 ?_
  refine aw_bl 1 1917 ?_
  refine aw_p 3835 (
    .a 5 2 <| .nil _ _) ?_
  refine aw_p 7671 (
    .a 3 2 <| .nil _ _) ?_
  refine aw_fl 15343 ?_
  refine aw_sk ?_
  refine block_normal ?_
  refine then_normal ?_
  refine aw_p1 (
    .a 2 2 <| .nil _ _) ?_
  refine then_normal ?_
  refine al_round ?_
  refine aw_p 239 (
    .a 1 2 <| .nil _ _) ?_
  refine aw_sq 478 479 ?_
  refine aw_tr 956 ?_
  refine aw_sk ?_
  refine then_normal ?_
  refine aw_sq 958 959 ?_
  refine aw_bl 1 1917 ?_
  refine aw_p 3835 (
    .a 5 2 <| .nil _ _) ?_
  refine aw_p 7671 (
    .a 3 2 <| .nil _ _) ?_
  refine aw_fl 15343 ?_
  refine aw_sk ?_
  refine block_normal ?_
  refine then_normal ?_
  refine aw_p1 (
    .a 2 2 <| .nil _ _) ?_
  refine then_normal ?_
  refine al_round ?_
  refine aw_p 239 (
    .a 1 2 <| .nil _ _) ?_
  refine aw_w [(0, .bool false), (1, .slice (some ⟨1, 0, none⟩) 20 0), (2, .int .i64 3), (3, .int .i64 3), (4, .slice (some ⟨1, 0, none⟩) 20 0), (5, .slice (some ⟨1, 0, none⟩) 20 0), (6, .int .i64 20), (7, .int .i64 4), (8, .bool true), (9, .int .i64 3), (10, .pointer (some ⟨1, 3, none⟩)), (11, .int .i64 3), (12, .int .i64 3), (13, .int .i64 3), (14, .bool false), (15, .int .i64 4)] [(1, ⟨[.int .i64 0, .int .i64 1, .int .i64 2, .int .i64 3, .int .i64 4, .int .i64 5, .int .i64 6, .int .i64 7, .int .i64 8, .int .i64 9, .int .i64 10, .int .i64 11, .int .i64 12, .int .i64 13, .int .i64 14, .int .i64 15, .int .i64 16, .int .i64 17, .int .i64 18, .int .i64 19], 22, true, 1⟩)] ?_
  refine aw_sq 478 479 ?_
  refine aw_tr 956 ?_
  refine aw_sk ?_
  refine then_normal ?_
  refine aw_sq 958 959 ?_
  refine aw_bl 1 1917 ?_
  refine aw_p 3835 (
    .a 5 2 <| .nil _ _) ?_
  refine aw_p 7671 (
    .a 3 2 <| .nil _ _) ?_
  refine aw_fl 15343 ?_
  refine aw_sk ?_
  refine block_normal ?_
  refine then_normal ?_
  refine aw_p1 (
    .a 2 2 <| .nil _ _) ?_
  refine then_normal ?_
  refine al_round ?_
  refine aw_p 239 (
    .a 1 2 <| .nil _ _) ?_
  refine aw_sq 478 479 ?_
  refine aw_tr 956 ?_
  refine aw_sk ?_
  refine then_normal ?_
  refine aw_sq 958 959 ?_
  refine aw_bl 1 1917 ?_
  refine aw_p 3835 (
    .a 5 2 <| .nil _ _) ?_
  refine aw_p 7671 (
    .a 3 2 <| .nil _ _) ?_
  refine aw_fl 15343 ?_
  refine aw_sk ?_
  refine block_normal ?_
  refine then_normal ?_
  refine aw_p1 (
    .a 2 2 <| .nil _ _) ?_
  refine then_normal ?_
  refine al_round ?_
  refine aw_p 239 (
    .a 1 2 <| .nil _ _) ?_
  refine aw_sq 478 479 ?_
  refine aw_tr 956 ?_
  refine aw_sk ?_
  refine then_normal ?_
  refine aw_sq 958 959 ?_
  refine aw_bl 1 1917 ?_
  refine aw_p 3835 (
    .a 5 2 <| .nil _ _) ?_
  refine aw_w [(0, .bool false), (1, .slice (some ⟨1, 0, none⟩) 20 0), (2, .int .i64 6), (3, .int .i64 6), (4, .slice (some ⟨1, 0, none⟩) 20 0), (5, .slice (some ⟨1, 0, none⟩) 20 0), (6, .int .i64 20), (7, .int .i64 6), (8, .bool true), (9, .int .i64 6), (10, .pointer (some ⟨1, 6, none⟩)), (11, .int .i64 6), (12, .int .i64 5), (13, .int .i64 5), (14, .bool false), (15, .int .i64 6)] [(1, ⟨[.int .i64 0, .int .i64 1, .int .i64 2, .int .i64 3, .int .i64 4, .int .i64 5, .int .i64 6, .int .i64 7, .int .i64 8, .int .i64 9, .int .i64 10, .int .i64 11, .int .i64 12, .int .i64 13, .int .i64 14, .int .i64 15, .int .i64 16, .int .i64 17, .int .i64 18, .int .i64 19], 22, true, 1⟩)] ?_
  refine aw_p 7671 (
    .a 3 2 <| .nil _ _) ?_
  refine aw_fl 15343 ?_
  refine aw_sk ?_
  refine block_normal ?_
  refine then_normal ?_
  refine aw_p1 (
    .a 2 2 <| .nil _ _) ?_
  refine then_normal ?_
  refine al_round ?_
  refine aw_p 239 (
    .a 1 2 <| .nil _ _) ?_
  refine aw_sq 478 479 ?_
  refine aw_tr 956 ?_
  refine aw_sk ?_
  refine then_normal ?_
  refine aw_sq 958 959 ?_
  refine aw_bl 1 1917 ?_
  refine aw_p 3835 (
    .a 5 2 <| .nil _ _) ?_
  refine aw_p 7671 (
    .a 3 2 <| .nil _ _) ?_
  refine aw_fl 15343 ?_
  refine aw_sk ?_
  refine block_normal ?_
  refine then_normal ?_
  refine aw_p1 (
    .a 2 2 <| .nil _ _) ?_
  refine then_normal ?_
  refine al_round ?_
  refine aw_p 239 (
    .a 1 2 <| .nil _ _) ?_
  refine aw_sq 478 479 ?_
  refine aw_tr 956 ?_
  refine aw_sk ?_
  refine then_normal ?_
  refine aw_sq 958 959 ?_
  refine aw_bl 1 1917 ?_
  refine aw_p 3835 (
    .a 5 2 <| .nil _ _) ?_
  refine aw_p 7671 (
    .a 3 2 <| .nil _ _) ?_
  refine aw_w [(0, .bool false), (1, .slice (some ⟨1, 0, none⟩) 20 0), (2, .int .i64 8), (3, .int .i64 8), (4, .slice (some ⟨1, 0, none⟩) 20 0), (5, .slice (some ⟨1, 0, none⟩) 20 0), (6, .int .i64 20), (7, .int .i64 8), (8, .bool true), (9, .int .i64 8), (10, .pointer (some ⟨1, 8, none⟩)), (11, .int .i64 8), (12, .int .i64 8), (13, .int .i64 8), (14, .bool false), (15, .int .i64 8)] [(1, ⟨[.int .i64 0, .int .i64 1, .int .i64 2, .int .i64 3, .int .i64 4, .int .i64 5, .int .i64 6, .int .i64 7, .int .i64 8, .int .i64 9, .int .i64 10, .int .i64 11, .int .i64 12, .int .i64 13, .int .i64 14, .int .i64 15, .int .i64 16, .int .i64 17, .int .i64 18, .int .i64 19], 22, true, 1⟩)] ?_
  refine aw_fl 15343 ?_
  refine aw_sk ?_
  refine block_normal ?_
  refine then_normal ?_
  refine aw_p1 (
    .a 2 2 <| .nil _ _) ?_
  refine then_normal ?_
  refine al_round ?_
  refine aw_p 239 (
    .a 1 2 <| .nil _ _) ?_
  refine aw_sq 478 479 ?_
  refine aw_tr 956 ?_
  refine aw_sk ?_
  refine then_normal ?_
  refine aw_sq 958 959 ?_
  refine aw_bl 1 1917 ?_
  refine aw_p 3835 (
    .a 5 2 <| .nil _ _) ?_
  refine aw_p 7671 (
    .a 3 2 <| .nil _ _) ?_
  refine aw_fl 15343 ?_
  refine aw_sk ?_
  refine block_normal ?_
  refine then_normal ?_
  refine aw_p1 (
    .a 2 2 <| .nil _ _) ?_
  refine then_normal ?_
  refine al_round ?_
  refine aw_p 239 (
    .a 1 2 <| .nil _ _) ?_
  refine aw_sq 478 479 ?_
  refine aw_tr 956 ?_
  refine aw_sk ?_
  refine then_normal ?_
  refine aw_sq 958 959 ?_
  refine aw_bl 1 1917 ?_
  refine aw_p 3835 (
    .a 5 2 <| .nil _ _) ?_
  refine aw_p 7671 (
    .a 3 2 <| .nil _ _) ?_
  refine aw_fl 15343 ?_
  refine aw_sk ?_
  refine block_normal ?_
  refine then_normal ?_
  refine aw_p1 (
    .a 2 2 <| .nil _ _) ?_
  refine then_normal ?_
  refine al_round ?_
  refine aw_p 239 (
    .a 1 2 <| .nil _ _) ?_
  refine aw_w [(0, .bool false), (1, .slice (some ⟨1, 0, none⟩) 20 0), (2, .int .i64 10), (3, .int .i64 10), (4, .slice (some ⟨1, 0, none⟩) 20 0), (5, .slice (some ⟨1, 0, none⟩) 20 0), (6, .int .i64 20), (7, .int .i64 11), (8, .bool true), (9, .int .i64 10), (10, .pointer (some ⟨1, 10, none⟩)), (11, .int .i64 10), (12, .int .i64 10), (13, .int .i64 10), (14, .bool false), (15, .int .i64 11)] [(1, ⟨[.int .i64 0, .int .i64 1, .int .i64 2, .int .i64 3, .int .i64 4, .int .i64 5, .int .i64 6, .int .i64 7, .int .i64 8, .int .i64 9, .int .i64 10, .int .i64 11, .int .i64 12, .int .i64 13, .int .i64 14, .int .i64 15, .int .i64 16, .int .i64 17, .int .i64 18, .int .i64 19], 22, true, 1⟩)] ?_
  refine aw_sq 478 479 ?_
  refine aw_tr 956 ?_
  refine aw_sk ?_
  refine then_normal ?_
  refine aw_sq 958 959 ?_
  refine aw_bl 1 1917 ?_
  refine aw_p 3835 (
    .a 5 2 <| .nil _ _) ?_
  refine aw_p 7671 (
    .a 3 2 <| .nil _ _) ?_
  refine aw_fl 15343 ?_
  refine aw_sk ?_
  refine block_normal ?_
  refine then_normal ?_
  refine aw_p1 (
    .a 2 2 <| .nil _ _) ?_
  refine then_normal ?_
  refine al_round ?_
  refine aw_p 239 (
    .a 1 2 <| .nil _ _) ?_
  refine aw_sq 478 479 ?_
  refine aw_tr 956 ?_
  refine aw_sk ?_
  refine then_normal ?_
  refine aw_sq 958 959 ?_
  refine aw_bl 1 1917 ?_
  refine aw_p 3835 (
    .a 5 2 <| .nil _ _) ?_
  refine aw_p 7671 (
    .a 3 2 <| .nil _ _) ?_
  refine aw_fl 15343 ?_
  refine aw_sk ?_
  refine block_normal ?_
  refine then_normal ?_
  refine aw_p1 (
    .a 2 2 <| .nil _ _) ?_
  refine then_normal ?_
  refine al_round ?_
  refine aw_p 239 (
    .a 1 2 <| .nil _ _) ?_
  refine aw_sq 478 479 ?_
  refine aw_tr 956 ?_
  refine aw_sk ?_
  refine then_normal ?_
  refine aw_sq 958 959 ?_
  refine aw_bl 1 1917 ?_
  refine aw_p 3835 (
    .a 5 2 <| .nil _ _) ?_
  refine aw_w [(0, .bool false), (1, .slice (some ⟨1, 0, none⟩) 20 0), (2, .int .i64 13), (3, .int .i64 13), (4, .slice (some ⟨1, 0, none⟩) 20 0), (5, .slice (some ⟨1, 0, none⟩) 20 0), (6, .int .i64 20), (7, .int .i64 13), (8, .bool true), (9, .int .i64 13), (10, .pointer (some ⟨1, 13, none⟩)), (11, .int .i64 13), (12, .int .i64 12), (13, .int .i64 12), (14, .bool false), (15, .int .i64 13)] [(1, ⟨[.int .i64 0, .int .i64 1, .int .i64 2, .int .i64 3, .int .i64 4, .int .i64 5, .int .i64 6, .int .i64 7, .int .i64 8, .int .i64 9, .int .i64 10, .int .i64 11, .int .i64 12, .int .i64 13, .int .i64 14, .int .i64 15, .int .i64 16, .int .i64 17, .int .i64 18, .int .i64 19], 22, true, 1⟩)] ?_
  refine aw_p 7671 (
    .a 3 2 <| .nil _ _) ?_
  refine aw_fl 15343 ?_
  refine aw_sk ?_
  refine block_normal ?_
  refine then_normal ?_
  refine aw_p1 (
    .a 2 2 <| .nil _ _) ?_
  refine then_normal ?_
  refine al_round ?_
  refine aw_p 239 (
    .a 1 2 <| .nil _ _) ?_
  refine aw_sq 478 479 ?_
  refine aw_tr 956 ?_
  refine aw_sk ?_
  refine then_normal ?_
  refine aw_sq 958 959 ?_
  refine aw_bl 1 1917 ?_
  refine aw_p 3835 (
    .a 5 2 <| .nil _ _) ?_
  refine aw_p 7671 (
    .a 3 2 <| .nil _ _) ?_
  refine aw_fl 15343 ?_
  refine aw_sk ?_
  refine block_normal ?_
  refine then_normal ?_
  refine aw_p1 (
    .a 2 2 <| .nil _ _) ?_
  refine then_normal ?_
  refine al_round ?_
  refine aw_p 239 (
    .a 1 2 <| .nil _ _) ?_
  refine aw_sq 478 479 ?_
  refine aw_tr 956 ?_
  refine aw_sk ?_
  refine then_normal ?_
  refine aw_sq 958 959 ?_
  refine aw_bl 1 1917 ?_
  refine aw_p 3835 (
    .a 5 2 <| .nil _ _) ?_
  refine aw_p 7671 (
    .a 3 2 <| .nil _ _) ?_
  refine aw_w [(0, .bool false), (1, .slice (some ⟨1, 0, none⟩) 20 0), (2, .int .i64 15), (3, .int .i64 15), (4, .slice (some ⟨1, 0, none⟩) 20 0), (5, .slice (some ⟨1, 0, none⟩) 20 0), (6, .int .i64 20), (7, .int .i64 15), (8, .bool true), (9, .int .i64 15), (10, .pointer (some ⟨1, 15, none⟩)), (11, .int .i64 15), (12, .int .i64 15), (13, .int .i64 15), (14, .bool false), (15, .int .i64 15)] [(1, ⟨[.int .i64 0, .int .i64 1, .int .i64 2, .int .i64 3, .int .i64 4, .int .i64 5, .int .i64 6, .int .i64 7, .int .i64 8, .int .i64 9, .int .i64 10, .int .i64 11, .int .i64 12, .int .i64 13, .int .i64 14, .int .i64 15, .int .i64 16, .int .i64 17, .int .i64 18, .int .i64 19], 22, true, 1⟩)] ?_
  refine aw_fl 15343 ?_
  refine aw_sk ?_
  refine block_normal ?_
  refine then_normal ?_
  refine aw_p1 (
    .a 2 2 <| .nil _ _) ?_
  refine then_normal ?_
  refine al_round ?_
  refine aw_p 239 (
    .a 1 2 <| .nil _ _) ?_
  refine aw_sq 478 479 ?_
  refine aw_tr 956 ?_
  refine aw_sk ?_
  refine then_normal ?_
  refine aw_sq 958 959 ?_
  refine aw_bl 1 1917 ?_
  refine aw_p 3835 (
    .a 5 2 <| .nil _ _) ?_
  refine aw_p 7671 (
    .a 3 2 <| .nil _ _) ?_
  refine aw_fl 15343 ?_
  refine aw_sk ?_
  refine block_normal ?_
  refine then_normal ?_
  refine aw_p1 (
    .a 2 2 <| .nil _ _) ?_
  refine then_normal ?_
  refine al_round ?_
  refine aw_p 239 (
    .a 1 2 <| .nil _ _) ?_
  refine aw_sq 478 479 ?_
  refine aw_tr 956 ?_
  refine aw_sk ?_
  refine then_normal ?_
  refine aw_sq 958 959 ?_
  refine aw_bl 1 1917 ?_
  refine aw_p 3835 (
    .a 5 2 <| .nil _ _) ?_
  refine aw_p 7671 (
    .a 3 2 <| .nil _ _) ?_
  refine aw_fl 15343 ?_
  refine aw_sk ?_
  refine block_normal ?_
  refine then_normal ?_
  refine aw_p1 (
    .a 2 2 <| .nil _ _) ?_
  refine then_normal ?_
  refine al_round ?_
  refine aw_p 239 (
    .a 1 2 <| .nil _ _) ?_
  refine aw_w [(0, .bool false), (1, .slice (some ⟨1, 0, none⟩) 20 0), (2, .int .i64 17), (3, .int .i64 17), (4, .slice (some ⟨1, 0, none⟩) 20 0), (5, .slice (some ⟨1, 0, none⟩) 20 0), (6, .int .i64 20), (7, .int .i64 18), (8, .bool true), (9, .int .i64 17), (10, .pointer (some ⟨1, 17, none⟩)), (11, .int .i64 17), (12, .int .i64 17), (13, .int .i64 17), (14, .bool false), (15, .int .i64 18)] [(1, ⟨[.int .i64 0, .int .i64 1, .int .i64 2, .int .i64 3, .int .i64 4, .int .i64 5, .int .i64 6, .int .i64 7, .int .i64 8, .int .i64 9, .int .i64 10, .int .i64 11, .int .i64 12, .int .i64 13, .int .i64 14, .int .i64 15, .int .i64 16, .int .i64 17, .int .i64 18, .int .i64 19], 22, true, 1⟩)] ?_
  refine aw_sq 478 479 ?_
  refine aw_tr 956 ?_
  refine aw_sk ?_
  refine then_normal ?_
  refine aw_sq 958 959 ?_
  refine aw_bl 1 1917 ?_
  refine aw_p 3835 (
    .a 5 2 <| .nil _ _) ?_
  refine aw_p 7671 (
    .a 3 2 <| .nil _ _) ?_
  refine aw_fl 15343 ?_
  refine aw_sk ?_
  refine block_normal ?_
  refine then_normal ?_
  refine aw_p1 (
    .a 2 2 <| .nil _ _) ?_
  refine then_normal ?_
  refine al_round ?_
  refine aw_p 239 (
    .a 1 2 <| .nil _ _) ?_
  refine aw_sq 478 479 ?_
  refine aw_tr 956 ?_
  refine aw_sk ?_
  refine then_normal ?_
  refine aw_sq 958 959 ?_
  refine aw_bl 1 1917 ?_
  refine aw_p 3835 (
    .a 5 2 <| .nil _ _) ?_
  refine aw_p 7671 (
    .a 3 2 <| .nil _ _) ?_
  refine aw_fl 15343 ?_
  refine aw_sk ?_
  refine block_normal ?_
  refine then_normal ?_
  refine aw_p1 (
    .a 2 2 <| .nil _ _) ?_
  refine then_normal ?_
  refine al_round ?_
  refine aw_p 239 (
    .a 1 2 <| .nil _ _) ?_
  refine aw_sq 478 479 ?_
  refine aw_fl 957 ?_
  refine aw_ex 0 ?_
  refine then_exit ?_
  refine then_exit ?_
  refine block_exit ?_
  refine then_normal ?_
  refine aw_p 31 (
    .p (does_c (terrlaw1_wideBegun_ok)) <| .a 19 2 <| .nil _ _) ?_
  refine aw_w [(0, .bool true), (1, .slice (some ⟨1, 0, none⟩) 20 0), (2, .int .i64 19), (3, .int .i64 19), (4, .slice (some ⟨1, 0, none⟩) 20 0), (5, .slice (some ⟨1, 0, none⟩) 20 0), (6, .int .i64 20), (7, .int .i64 20), (8, .bool false), (9, .int .i64 19), (10, .pointer (some ⟨1, 19, none⟩)), (11, .int .i64 19), (12, .int .i64 19), (13, .int .i64 19), (14, .bool false), (15, .int .i64 20)] [(1, ⟨[.int .i64 0, .int .i64 1, .int .i64 2, .int .i64 3, .int .i64 4, .int .i64 5, .int .i64 6, .int .i64 7, .int .i64 8, .int .i64 9, .int .i64 10, .int .i64 11, .int .i64 12, .int .i64 13, .int .i64 14, .int .i64 15, .int .i64 16, .int .i64 17, .int .i64 18, .int .i64 19], 22, true, 1⟩)] ?_
  refine aw_rt ?_
  exact en_ret [.bool true] (by kernel_rfl)


end Go.Proofs.Ytjimiomokjfmiaa.Am
