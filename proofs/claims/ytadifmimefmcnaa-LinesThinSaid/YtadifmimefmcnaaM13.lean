import Derived.Test.YtadifmimefmcnaaProg
import Derived.Test.YtadifmimefmcnaaM2
import Derived.Test.YtadifmimefmcnaaM3
import Derived.Test.YtadifmimefmcnaaM0
set_option maxHeartbeats 4000000
set_option linter.unusedVariables false
set_option linter.unusedSimpArgs false
namespace Go.Proofs.Ytadifmimefmcnaa.Am
open Go Go.Proofs
theorem tT  :
    AC Try.prog 89 0 ([.int .i64 0, .int .i64 0]) [] (.agg #[.int .i64 0, .int .i64 0]) [] := by
 refine qK Try.func89 (fun w0 W pin => ?_)
 exact aw_e 3 1 1<|aw_e 7 4 2<|qF<|qB [.agg #[.int .i64 0, .int .i64 0]] kK
theorem au_b6_2  :
    AC Try.prog 89 0 ([.int .i64 2, .int .i64 0]) [] (.agg #[.int .i64 2, .int .i64 0]) [] := by
 refine qK Try.func89 (fun w0 W pin => ?_)
 exact aw_e 3 1 1<|aw_e 7 4 2<|qF<|qB [.agg #[.int .i64 2, .int .i64 0]] kK
theorem au_b6_3  :
    AC Try.prog 89 0 ([.int .i64 2, .int .i64 2]) [] (.agg #[.int .i64 2, .int .i64 2]) [] := by
 refine qK Try.func89 (fun w0 W pin => ?_)
 exact aw_e 3 1 1<|aw_e 7 4 2<|qF<|qB [.agg #[.int .i64 2, .int .i64 2]] kK
theorem au_b6_4  :
    AC Try.prog 89 0 ([.int .i64 0, .int .i64 2]) [] (.agg #[.int .i64 0, .int .i64 2]) [] := by
 refine qK Try.func89 (fun w0 W pin => ?_)
 exact aw_e 3 1 1<|aw_e 7 4 2<|qF<|qB [.agg #[.int .i64 0, .int .i64 2]] kK
theorem au_b6_5  :
    AC Try.prog 89 0 ([.int .i64 1, .int .i64 1]) [] (.agg #[.int .i64 1, .int .i64 1]) [] := by
 refine qK Try.func89 (fun w0 W pin => ?_)
 exact aw_e 3 1 1<|aw_e 7 4 2<|qF<|qB [.agg #[.int .i64 1, .int .i64 1]] kK
theorem au_b6_6  :
    AC Try.prog 89 0 ([.int .i64 0, .int .i64 1]) [] (.agg #[.int .i64 0, .int .i64 1]) [] := by
 refine qK Try.func89 (fun w0 W pin => ?_)
 exact aw_e 3 1 1<|aw_e 7 4 2<|qF<|qB [.agg #[.int .i64 0, .int .i64 1]] kK
theorem au_b6_7  :
    AC Try.prog 89 0 ([.int .i64 1, .int .i64 0]) [] (.agg #[.int .i64 1, .int .i64 0]) [] := by
 refine qK Try.func89 (fun w0 W pin => ?_)
 exact aw_e 3 1 1<|aw_e 7 4 2<|qF<|qB [.agg #[.int .i64 1, .int .i64 0]] kK
theorem wY  :
    AC Try.prog 101 0 ([.int .i64 0, .int .i64 1048576]) [] (.int .i64 0) [] := by
 refine qK Try.func101 (fun w0 W pin => ?_)
 exact aw_e 3 1 1<|aw_e 7 7 1<|qF<|qB [.int .i64 0] kK
theorem vB  :
    AC Try.prog 56 0 ([.agg #[.int .i64 0, .int .i64 0]]) [] (.agg #[.int .i64 0, .int .i64 0]) [] := by
 refine qK Try.func56 (fun w0 W pin => ?_)
 refine aw_e 3 2 1<|aw_d 7 (
  .a 2 3 <| .p (qC (wY)) <| .a 2 3 <| .p (qC (wY)) <| .e 2 3) ?_
 exact qF<|qB [.agg #[.int .i64 0, .int .i64 0]] kK
theorem bR  :
    AC Try.prog 101 0 ([.int .i64 1, .int .i64 1048576]) [] (.int .i64 1) [] := by
 refine qK Try.func101 (fun w0 W pin => ?_)
 exact aw_e 3 1 1<|aw_e 7 7 1<|qF<|qB [.int .i64 1] kK
theorem yX  :
    AC Try.prog 56 0 ([.agg #[.int .i64 1, .int .i64 1]]) [] (.agg #[.int .i64 1, .int .i64 1]) [] := by
 refine qK Try.func56 (fun w0 W pin => ?_)
 refine aw_e 3 2 1<|aw_d 7 (
  .a 2 3 <| .p (qC (bR)) <| .a 2 3 <| .p (qC (bR)) <| .e 2 3) ?_
 exact qF<|qB [.agg #[.int .i64 1, .int .i64 1]] kK
theorem wH  :
    AC Try.prog 56 0 ([.agg #[.int .i64 0, .int .i64 1]]) [] (.agg #[.int .i64 0, .int .i64 1]) [] := by
 refine qK Try.func56 (fun w0 W pin => ?_)
 refine aw_e 3 2 1<|aw_d 7 (
  .a 2 3 <| .p (qC (wY)) <| .a 2 3 <| .p (qC (bR)) <| .e 2 3) ?_
 exact qF<|qB [.agg #[.int .i64 0, .int .i64 1]] kK
theorem dV  :
    AC Try.prog 56 0 ([.agg #[.int .i64 1, .int .i64 0]]) [] (.agg #[.int .i64 1, .int .i64 0]) [] := by
 refine qK Try.func56 (fun w0 W pin => ?_)
 refine aw_e 3 2 1<|aw_d 7 (
  .a 2 3 <| .p (qC (bR)) <| .a 2 3 <| .p (qC (wY)) <| .e 2 3) ?_
 exact qF<|qB [.agg #[.int .i64 1, .int .i64 0]] kK
theorem dU  :
    AC Try.prog 117 0 ([.agg #[.int .i64 0, .int .i64 0], .agg #[.int .i64 1, .int .i64 1]]) [] (.agg #[.int .i64 1, .int .i64 1]) [] := by
 refine qK Try.func117 (fun w0 W pin => ?_)
 refine aw_e 3 3 1<|aw_d 7 (
  .a 1 4 <| .p (qC (vB)) <| .a 1 4 <| .p (qC (yX)) <| .e 2 4) ?_
 exact aw_e 15 12 4<|qF<|qB [.agg #[.int .i64 1, .int .i64 1]] kK
theorem au_b6_15  :
    AC Try.prog 117 0 ([.agg #[.int .i64 0, .int .i64 0], .agg #[.int .i64 0, .int .i64 1]]) [] (.agg #[.int .i64 0, .int .i64 1]) [] := by
 refine qK Try.func117 (fun w0 W pin => ?_)
 refine aw_e 3 3 1<|aw_d 7 (
  .a 1 4 <| .p (qC (vB)) <| .a 1 4 <| .p (qC (wH)) <| .e 2 4) ?_
 exact aw_e 15 12 4<|qF<|qB [.agg #[.int .i64 0, .int .i64 1]] kK
theorem au_b6_16  :
    AC Try.prog 80 0 ([.agg #[.int .i64 0, .int .i64 0], .agg #[.int .i64 1, .int .i64 1], .agg #[.int .i64 0, .int .i64 1]]) [] (.int .i64 1) [] := by
 refine qK Try.func80 (fun w0 W pin => ?_)
 refine aw_e 3 4 1<|aw_d 7 (
  .a 2 4 <| .p (qC (dU)) <| .a 2 4 <| .p (qC (au_b6_15)) <| .e 4 4) ?_
 refine aw_e 15 12 6<|aw_w [(6, .int .i64 1)] [] ?_
 exact qF<|qB [.int .i64 1] kK
theorem au_b6_17  :
    AC Try.prog 116 0 ([.int .i64 1]) [] (.bool false) [] := by
 refine qK Try.func116 (fun w0 W pin => ?_)
 exact aw_e 3 1 1<|aw_e 7 4 1<|qF<|qB [.bool false] kK
theorem yB  :
    AC Try.prog 116 0 ([.int .i64 0]) [] (.bool false) [] := by
 refine qK Try.func116 (fun w0 W pin => ?_)
 exact aw_e 3 1 1<|aw_e 7 4 1<|qF<|qB [.bool false] kK
theorem qD4  :
    AC Try.prog 79 0 ([.int .i64 1, .int .i64 0]) [] (.int .i64 1) [] := by
 refine qK Try.func79 (fun w0 W pin => ?_)
 refine aw_e 3 1 1<|aw_p 7 (
  .a 1 1 <| .p (qC (au_b6_17)) <| .e 1 1) ?_
 refine aw_p 15 (
  .a 1 1 <| .p (qC (yB)) <| .e 1 1) ?_
 exact qD 30 31<|aw_e 61 1 1<|qP 123<|qH<|qD 62 63<|aw_e 125 1 1<|qP 251<|qH<|qD 126 127<|aw_e 253 3 1<|qP 507<|qH<|qD 254 255<|aw_e 509 3 1<|qR 1018<|aw_e 2037 1 1<|qF<|qB [.int .i64 1] kK
theorem qD3  :
    AC Try.prog 35 0 ([.agg #[.int .i64 0, .int .i64 0], .agg #[.int .i64 1, .int .i64 1], .agg #[.int .i64 0, .int .i64 1]]) [] (.int .i64 1) [] := by
 refine qK Try.func35 (fun w0 W pin => ?_)
 refine aw_e 3 4 1<|aw_p 7 (
  .a 3 4 <| .p (qC (au_b6_16)) <| .p (qC (qD4)) <| .e 1 4) ?_
 exact qF<|qB [.int .i64 1] kK
theorem au_b6_21  :
    AC Try.prog 117 0 ([.agg #[.int .i64 0, .int .i64 0], .agg #[.int .i64 1, .int .i64 0]]) [] (.agg #[.int .i64 1, .int .i64 0]) [] := by
 refine qK Try.func117 (fun w0 W pin => ?_)
 refine aw_e 3 3 1<|aw_d 7 (
  .a 1 4 <| .p (qC (vB)) <| .a 1 4 <| .p (qC (dV)) <| .e 2 4) ?_
 exact aw_e 15 12 4<|qF<|qB [.agg #[.int .i64 1, .int .i64 0]] kK
theorem au_b6_22  :
    AC Try.prog 80 0 ([.agg #[.int .i64 0, .int .i64 0], .agg #[.int .i64 1, .int .i64 1], .agg #[.int .i64 1, .int .i64 0]]) [] (.int .i64 (-1)) [] := by
 refine qK Try.func80 (fun w0 W pin => ?_)
 refine aw_e 3 4 1<|aw_d 7 (
  .a 2 4 <| .p (qC (dU)) <| .a 2 4 <| .p (qC (au_b6_21)) <| .e 4 4) ?_
 refine aw_e 15 12 6<|aw_w [(6, .int .i64 (-1))] [] ?_
 exact qF<|qB [.int .i64 (-1)] kK
theorem au_b6_23  :
    AC Try.prog 116 0 ([.int .i64 (-1)]) [] (.bool false) [] := by
 refine qK Try.func116 (fun w0 W pin => ?_)
 exact aw_e 3 1 1<|aw_e 7 4 1<|qF<|qB [.bool false] kK
theorem qD2  :
    AC Try.prog 79 0 ([.int .i64 (-1), .int .i64 0]) [] (.int .i64 (-1)) [] := by
 refine qK Try.func79 (fun w0 W pin => ?_)
 refine aw_e 3 1 1<|aw_p 7 (
  .a 1 1 <| .p (qC (au_b6_23)) <| .e 1 1) ?_
 refine aw_p 15 (
  .a 1 1 <| .p (qC (yB)) <| .e 1 1) ?_
 exact qD 30 31<|aw_e 61 1 1<|qP 123<|qH<|qD 62 63<|aw_e 125 1 1<|qP 251<|qH<|qD 126 127<|aw_e 253 3 1<|qR 506<|aw_e 1013 1 1<|qF<|qB [.int .i64 (-1)] kK
theorem qD1  :
    AC Try.prog 35 0 ([.agg #[.int .i64 0, .int .i64 0], .agg #[.int .i64 1, .int .i64 1], .agg #[.int .i64 1, .int .i64 0]]) [] (.int .i64 (-1)) [] := by
 refine qK Try.func35 (fun w0 W pin => ?_)
 refine aw_e 3 4 1<|aw_p 7 (
  .a 3 4 <| .p (qC (au_b6_22)) <| .p (qC (qD2)) <| .e 1 4) ?_
 exact qF<|qB [.int .i64 (-1)] kK
theorem qD0  :
    AC Try.prog 117 0 ([.agg #[.int .i64 0, .int .i64 1], .agg #[.int .i64 1, .int .i64 0]]) [] (.agg #[.int .i64 1, .int .i64 (-1)]) [] := by
 refine qK Try.func117 (fun w0 W pin => ?_)
 refine aw_e 3 3 1<|aw_d 7 (
  .a 1 4 <| .p (qC (wH)) <| .a 1 4 <| .p (qC (dV)) <| .e 2 4) ?_
 exact aw_e 15 12 4<|qF<|qB [.agg #[.int .i64 1, .int .i64 (-1)]] kK
theorem au_b6_27  :
    AC Try.prog 117 0 ([.agg #[.int .i64 0, .int .i64 1], .agg #[.int .i64 0, .int .i64 0]]) [] (.agg #[.int .i64 0, .int .i64 (-1)]) [] := by
 refine qK Try.func117 (fun w0 W pin => ?_)
 refine aw_e 3 3 1<|aw_d 7 (
  .a 1 4 <| .p (qC (wH)) <| .a 1 4 <| .p (qC (vB)) <| .e 2 4) ?_
 exact aw_e 15 12 4<|qF<|qB [.agg #[.int .i64 0, .int .i64 (-1)]] kK
theorem qCL  :
    AC Try.prog 80 0 ([.agg #[.int .i64 0, .int .i64 1], .agg #[.int .i64 1, .int .i64 0], .agg #[.int .i64 0, .int .i64 0]]) [] (.int .i64 (-1)) [] := by
 refine qK Try.func80 (fun w0 W pin => ?_)
 refine aw_e 3 4 1<|aw_d 7 (
  .a 2 4 <| .p (qC (qD0)) <| .a 2 4 <| .p (qC (au_b6_27)) <| .e 4 4) ?_
 refine aw_e 15 12 6<|aw_w [(6, .int .i64 (-1))] [] ?_
 exact qF<|qB [.int .i64 (-1)] kK
theorem qCK  :
    AC Try.prog 35 0 ([.agg #[.int .i64 0, .int .i64 1], .agg #[.int .i64 1, .int .i64 0], .agg #[.int .i64 0, .int .i64 0]]) [] (.int .i64 (-1)) [] := by
 refine qK Try.func35 (fun w0 W pin => ?_)
 refine aw_e 3 4 1<|aw_p 7 (
  .a 3 4 <| .p (qC (qCL)) <| .p (qC (qD2)) <| .e 1 4) ?_
 exact qF<|qB [.int .i64 (-1)] kK
theorem au_b6_30  :
    AC Try.prog 117 0 ([.agg #[.int .i64 0, .int .i64 1], .agg #[.int .i64 1, .int .i64 1]]) [] (.agg #[.int .i64 1, .int .i64 0]) [] := by
 refine qK Try.func117 (fun w0 W pin => ?_)
 refine aw_e 3 3 1<|aw_d 7 (
  .a 1 4 <| .p (qC (wH)) <| .a 1 4 <| .p (qC (yX)) <| .e 2 4) ?_
 exact aw_e 15 12 4<|qF<|qB [.agg #[.int .i64 1, .int .i64 0]] kK
theorem qCJ  :
    AC Try.prog 80 0 ([.agg #[.int .i64 0, .int .i64 1], .agg #[.int .i64 1, .int .i64 0], .agg #[.int .i64 1, .int .i64 1]]) [] (.int .i64 1) [] := by
 refine qK Try.func80 (fun w0 W pin => ?_)
 refine aw_e 3 4 1<|aw_d 7 (
  .a 2 4 <| .p (qC (qD0)) <| .a 2 4 <| .p (qC (au_b6_30)) <| .e 4 4) ?_
 refine aw_e 15 12 6<|aw_w [(6, .int .i64 1)] [] ?_
 exact qF<|qB [.int .i64 1] kK
theorem qCH  :
    AC Try.prog 35 0 ([.agg #[.int .i64 0, .int .i64 1], .agg #[.int .i64 1, .int .i64 0], .agg #[.int .i64 1, .int .i64 1]]) [] (.int .i64 1) [] := by
 refine qK Try.func35 (fun w0 W pin => ?_)
 refine aw_e 3 4 1<|aw_p 7 (
  .a 3 4 <| .p (qC (qCJ)) <| .p (qC (qD4)) <| .e 1 4) ?_
 exact qF<|qB [.int .i64 1] kK
theorem au_b6_33  :
    AC Try.prog 96 0 ([.agg #[.int .i64 0, .int .i64 0], .agg #[.int .i64 1, .int .i64 1], .agg #[.int .i64 0, .int .i64 1], .agg #[.int .i64 1, .int .i64 0]]) [] (.int .i64 1) [] := by
 refine qK Try.func96 (fun w0 W pin => ?_)
 refine aw_e 3 5 1<|aw_d 7 (
  .a 1 5 <| .p (qC (vB)) <| .a 1 5 <| .p (qC (yX)) <| .a 1 5 <| .p (qC (wH)) <| .a 1 5 <| .p (qC (dV)) <| .e 4 5) ?_
 refine qD 14 15<|aw_d 29 (
  .a 3 5 <| .p (qC (qD3)) <| .a 3 5 <| .p (qC (qD1)) <| .a 6 5 <| .p (qC (qCK)) <| .a 3 5 <| .p (qC (qCH)) <| .e 3 5) ?_
 refine aw_w [(4, .pointer (some ⟨1, 0, none⟩)), (5, .pointer (some ⟨2, 0, none⟩)), (6, .pointer (some ⟨3, 0, none⟩)), (7, .pointer (some ⟨4, 0, none⟩)), (8, .int .i64 0), (38, .bool true)] [(1, ⟨[.int .i64 0, .int .i64 0], 29, true, 2⟩), (2, ⟨[.int .i64 1, .int .i64 1], 29, true, 2⟩), (3, ⟨[.int .i64 0, .int .i64 1], 29, true, 2⟩), (4, ⟨[.int .i64 1, .int .i64 0], 29, true, 2⟩)] ?_
 exact qR 58<|aw_e 117 1 5<|qF<|qB [.int .i64 1] kK
theorem au_b6_34  :
    AC Try.prog 78 0 ([.agg #[.int .i64 0, .int .i64 1], .agg #[.int .i64 1, .int .i64 0], .agg #[.int .i64 0, .int .i64 0]]) [] (.bool false) [] := by
 refine qK Try.func78 (fun w0 W pin => ?_)
 refine aw_e 3 4 1<|aw_p 7 (
  .a 3 4 <| .p (qC (qCK)) <| .e 9 4) ?_
 exact qF<|qB [.bool false] kK
theorem au_b6_35  :
    AC Try.prog 121 1 ([.agg #[.int .i64 0, .int .i64 0], .agg #[.int .i64 0, .int .i64 1], .agg #[.int .i64 1, .int .i64 0], .pointer (some ⟨0, 0, none⟩)]) [(0, ⟨[.slice none 0 0], 24, true, 1⟩)] (.tuple #[]) [(0, ⟨[.slice none 0 0], 24, true, 1⟩)] := by
 refine qK Try.func121 (fun w0 W pin => ?_)
 refine aw_e 3 3 1<|qD 6 7<|aw_p 13 (
  .a 3 4 <| .p (qC (au_b6_34)) <| .e 1 4) ?_
 exact qR 26<|qF<|qB [] kK
theorem au_b6_36  :
    AC Try.prog 78 0 ([.agg #[.int .i64 0, .int .i64 1], .agg #[.int .i64 1, .int .i64 0], .agg #[.int .i64 1, .int .i64 1]]) [] (.bool false) [] := by
 refine qK Try.func78 (fun w0 W pin => ?_)
 refine aw_e 3 4 1<|aw_p 7 (
  .a 3 4 <| .p (qC (qCH)) <| .e 9 4) ?_
 exact qF<|qB [.bool false] kK
theorem au_b6_37  :
    AC Try.prog 121 1 ([.agg #[.int .i64 1, .int .i64 1], .agg #[.int .i64 0, .int .i64 1], .agg #[.int .i64 1, .int .i64 0], .pointer (some ⟨0, 0, none⟩)]) [(0, ⟨[.slice none 0 0], 24, true, 1⟩)] (.tuple #[]) [(0, ⟨[.slice none 0 0], 24, true, 1⟩)] := by
 refine qK Try.func121 (fun w0 W pin => ?_)
 refine aw_e 3 3 1<|qD 6 7<|aw_p 13 (
  .a 3 4 <| .p (qC (au_b6_36)) <| .e 1 4) ?_
 exact qR 26<|qF<|qB [] kK
theorem au_b6_38  :
    AC Try.prog 78 0 ([.agg #[.int .i64 0, .int .i64 0], .agg #[.int .i64 1, .int .i64 1], .agg #[.int .i64 0, .int .i64 1]]) [] (.bool false) [] := by
 refine qK Try.func78 (fun w0 W pin => ?_)
 refine aw_e 3 4 1<|aw_p 7 (
  .a 3 4 <| .p (qC (qD3)) <| .e 9 4) ?_
 exact qF<|qB [.bool false] kK
theorem au_b6_39  :
    AC Try.prog 121 1 ([.agg #[.int .i64 0, .int .i64 1], .agg #[.int .i64 0, .int .i64 0], .agg #[.int .i64 1, .int .i64 1], .pointer (some ⟨0, 0, none⟩)]) [(0, ⟨[.slice none 0 0], 24, true, 1⟩)] (.tuple #[]) [(0, ⟨[.slice none 0 0], 24, true, 1⟩)] := by
 refine qK Try.func121 (fun w0 W pin => ?_)
 refine aw_e 3 3 1<|qD 6 7<|aw_p 13 (
  .a 3 4 <| .p (qC (au_b6_38)) <| .e 1 4) ?_
 exact qR 26<|qF<|qB [] kK
theorem au_b6_40  :
    AC Try.prog 78 0 ([.agg #[.int .i64 0, .int .i64 0], .agg #[.int .i64 1, .int .i64 1], .agg #[.int .i64 1, .int .i64 0]]) [] (.bool false) [] := by
 refine qK Try.func78 (fun w0 W pin => ?_)
 refine aw_e 3 4 1<|aw_p 7 (
  .a 3 4 <| .p (qC (qD1)) <| .e 9 4) ?_
 exact qF<|qB [.bool false] kK
theorem au_b6_41  :
    AC Try.prog 121 1 ([.agg #[.int .i64 1, .int .i64 0], .agg #[.int .i64 0, .int .i64 0], .agg #[.int .i64 1, .int .i64 1], .pointer (some ⟨0, 0, none⟩)]) [(0, ⟨[.slice none 0 0], 24, true, 1⟩)] (.tuple #[]) [(0, ⟨[.slice none 0 0], 24, true, 1⟩)] := by
 refine qK Try.func121 (fun w0 W pin => ?_)
 refine aw_e 3 3 1<|qD 6 7<|aw_p 13 (
  .a 3 4 <| .p (qC (au_b6_40)) <| .e 1 4) ?_
 exact qR 26<|qF<|qB [] kK
theorem au_b6_42  :
    AC Try.prog 97 0 ([.agg #[.int .i64 0, .int .i64 0], .agg #[.int .i64 1, .int .i64 1], .agg #[.int .i64 0, .int .i64 1], .agg #[.int .i64 1, .int .i64 0]]) [] (.slice none 0 0) [] := by
 refine qK Try.func97 (fun w0 W pin => ?_)
 refine aw_e 3 5 1<|aw_e 7 1 5<|aw_e 15 2 6<|aw_p 31 (
  .a 4 6 <| .p (qQ [5] (au_b6_35)) <| .nil _ _) ?_
 refine aw_p 63 (
  .a 4 6 <| .p (qQ [5] (au_b6_37)) <| .nil _ _) ?_
 refine aw_p 127 (
  .a 4 6 <| .p (qQ [5] (au_b6_39)) <| .nil _ _) ?_
 refine aw_p 255 (
  .a 4 6 <| .p (qQ [5] (au_b6_41)) <| .nil _ _) ?_
 refine aw_w [(8, .slice none 0 0), (9, .pointer (some ⟨5, 0, none⟩))] [(5, ⟨[.slice none 0 0], 24, true, 1⟩)] ?_
 exact aw_e 511 2 6<|qF<|qB [.slice none 0 0] kK
theorem au_b6_43  :
    AC Try.prog 120 0 ([.int .u64 1, .int .u64 1]) [] (.tuple #[.int .u64 0, .int .u64 1]) [] := by
 refine qK Try.func120 (fun w0 W pin => ?_)
 refine aw_e 3 2 1<|aw_e 7 3 1<|aw_e 15 3 1<|aw_e 31 3 1<|aw_e 63 3 1<|aw_e 127 4 1<|aw_e 255 7 1<|aw_w [(0, .int .u64 1), (1, .int .u64 1), (4, .int .u64 0), (5, .int .u64 0), (6, .int .u64 1), (7, .int .u64 0), (9, .int .u64 0), (11, .int .u64 0)] [] ?_
 refine aw_e 511 3 1<|aw_e 1023 3 1<|aw_e 2047 6 1<|aw_e 4095 9 1<|aw_e 8191 4 1<|aw_w [(4, .int .u64 0), (5, .int .u64 1)] [] ?_
 exact qF<|qB [.int .u64 0, .int .u64 1] kK
theorem qCG  :
    AC Try.prog 92 0 ([.int .i64 1, .int .i64 1]) [] (.agg #[.int .i64 0, .int .u64 1]) [] := by
 refine qK Try.func92 (fun w0 W pin => ?_)
 refine aw_e 3 1 1<|aw_p 7 (
  .a 4 2 <| .p (qC (au_b6_43)) <| .e 5 2) ?_
 exact qD 14 15<|aw_e 29 2 2<|qP 59<|qH<|qD 30 31<|aw_e 61 2 2<|qP 123<|qH<|aw_e 63 5 2<|qF<|qB [.agg #[.int .i64 0, .int .u64 1]] kK
theorem au_b6_45  :
    AC Try.prog 154 0 ([.int .u64 0, .int .u64 1, .int .u64 2]) [] (.tuple #[.int .u64 0, .int .u64 1]) [] := by
 refine qK Try.func154 (fun w0 W pin => ?_)
 refine aw_e 3 2 1<|qD 6 7<|aw_e 13 2 1<|qP 27<|qH<|qD 14 15<|aw_e 29 3 1<|qP 59<|qH<|qD 30 31<|aw_e 61 2 1<|qR 122<|aw_d 245 (
  .e 8 1) ?_
 exact qF<|qB [.int .u64 0, .int .u64 1] kK
theorem au_b6_46  :
    AC Try.prog 123 0 ([.agg #[.int .i64 0, .int .u64 1], .int .i64 2]) [] (.tuple #[.agg #[.int .i64 0, .int .u64 0], .int .i64 1, .int .i64 0]) [] := by
 refine qK Try.func123 (fun w0 W pin => ?_)
 refine aw_e 3 4 1<|qD 6 7<|aw_e 13 2 3<|qP 27<|qH<|aw_e 15 4 3<|qD 30 31<|aw_e 61 1 3<|qP 123<|qH<|aw_d 63 (
  .e 14 3) ?_
 refine aw_w [(1, .int .i64 2), (2, .pointer (some ⟨1, 0, none⟩)), (4, .pointer (some ⟨2, 0, none⟩)), (5, .int .i64 0), (6, .int .i64 0), (7, .bool false), (8, .int .u64 0), (9, .int .u64 0)] [(1, ⟨[.int .i64 0, .int .u64 1], 90, true, 2⟩), (2, ⟨[.int .i64 0, .int .u64 0], 90, true, 2⟩)] ?_
 refine aw_p 127 (
  .a 5 3 <| .p (qC (au_b6_45)) <| .e 5 3) ?_
 exact qD 254 255<|aw_e 509 1 3<|qP 1019<|qH<|aw_e 511 9 3<|qF<|qB [.agg #[.int .i64 0, .int .u64 0], .int .i64 1, .int .i64 0] kK
theorem au_b6_47  :
    AC Try.prog 93 0 ([.int .i64 0]) [] (.agg #[.int .i64 0, .int .u64 0]) [] := by
 refine qK Try.func93 (fun w0 W pin => ?_)
 exact aw_e 3 1 1<|aw_e 7 6 2<|qF<|qB [.agg #[.int .i64 0, .int .u64 0]] kK
theorem au_b6_48  :
    AC Try.prog 124 0 ([.agg #[.int .i64 0, .int .u64 0]]) [] (.tuple #[.int .i64 0, .int .i64 0]) [] := by
 refine qK Try.func124 (fun w0 W pin => ?_)
 refine aw_e 3 3 1<|qD 6 7<|aw_d 13 (
  .a 4 2 <| .p (qC (au_b6_47)) <| .p (qV false ((show (!((0 == 0) && ((0 == 0) && true))) = false from by decide))) <| .nil _ _) ?_
 exact qP 27<|qH<|aw_e 15 5 2<|qF<|qB [.int .i64 0, .int .i64 0] kK
theorem bP  :
    AC Try.prog 155 0 ([.int .i64 1]) [] (.int .u64 1) [] := by
 refine qK Try.func155 (fun w0 W pin => ?_)
 exact aw_e 3 1 1<|qD 6 7<|aw_e 13 2 1<|qP 27<|qH<|aw_e 15 3 1<|qF<|qB [.int .u64 1] kK
theorem tS  :
    AC Try.prog 155 0 ([.int .i64 2]) [] (.int .u64 2) [] := by
 refine qK Try.func155 (fun w0 W pin => ?_)
 exact aw_e 3 1 1<|qD 6 7<|aw_e 13 2 1<|qP 27<|qH<|aw_e 15 3 1<|qF<|qB [.int .u64 2] kK
theorem tR  :
    AC Try.prog 156 0 ([.int .u64 1, .int .u64 2]) [] (.int .u64 1) [] := by
 refine qK Try.func156 (fun w0 W pin => ?_)
 refine aw_e 3 1 1<|qD 6 7<|qM 0 13<|q6 27<|qE<|qD 54 55<|aw_e 109 2 1<|qR 218<|qH<|qM 1 111<|fX (
  .e 6 1) ?_
 refine qE<|qD 54 55<|aw_e 109 2 1<|qR 218<|qH<|qM 1 111<|fX (
  .e 6 1) ?_
 exact qE<|qD 54 55<|aw_e 109 2 1<|qP 219<|q5 0<|qG<|aw_e 15 2 1<|qF<|qB [.int .u64 1] kK
theorem au_b6_52  :
    AC Try.prog 157 0 ([.bool false, .int .u64 1, .int .u64 2]) [] (.tuple #[.agg #[.int .i64 1, .int .i64 2], .int .i64 0]) [] := by
 refine qK Try.func157 (fun w0 W pin => ?_)
 exact aw_e 3 2 1<|qD 6 7<|aw_e 13 6 2<|qP 27<|qH<|qD 14 15<|aw_e 29 1 2<|qP 59<|qH<|aw_e 31 7 2<|qF<|qB [.agg #[.int .i64 1, .int .i64 2], .int .i64 0] kK
theorem au_b6_53  :
    AC Try.prog 125 0 ([.int .i64 1, .int .i64 2]) [] (.tuple #[.agg #[.int .i64 1, .int .i64 2], .int .i64 0]) [] := by
 refine qK Try.func125 (fun w0 W pin => ?_)
 refine aw_e 3 2 1<|qD 6 7<|aw_e 13 2 2<|qP 27<|qH<|aw_p 15 (
  .a 1 2 <| .p (qC (bP)) <| .a 1 2 <| .p (qC (tS)) <| .e 2 2) ?_
 refine aw_p 31 (
  .a 2 2 <| .p (qC (tR)) <| .e 1 2) ?_
 refine aw_d 63 (
  .a 15 2 <| .p (qC (au_b6_52)) <| .e 4 2) ?_
 refine aw_w [(4, .pointer (some ⟨1, 0, none⟩)), (5, .int .i64 0)] [(1, ⟨[.int .i64 1, .int .i64 2], 59, true, 2⟩)] ?_
 exact qF<|qB [.agg #[.int .i64 1, .int .i64 2], .int .i64 0] kK
theorem au_b6_54  :
    AC Try.prog 122 0 ([.int .i64 0]) [] (.agg #[.int .i64 0, .int .i64 1]) [] := by
 refine qK Try.func122 (fun w0 W pin => ?_)
 exact aw_e 3 1 1<|aw_e 7 4 2<|qF<|qB [.agg #[.int .i64 0, .int .i64 1]] kK
theorem qCF  :
    AC Try.prog 155 0 ([.int .i64 0]) [] (.int .u64 0) [] := by
 refine qK Try.func155 (fun w0 W pin => ?_)
 exact aw_e 3 1 1<|qD 6 7<|aw_e 13 2 1<|qP 27<|qH<|aw_e 15 3 1<|qF<|qB [.int .u64 0] kK
theorem qCE  :
    AC Try.prog 156 0 ([.int .u64 0, .int .u64 1]) [] (.int .u64 1) [] := by
 refine qK Try.func156 (fun w0 W pin => ?_)
 refine aw_e 3 1 1<|qD 6 7<|qM 0 13<|q6 27<|qE<|qD 54 55<|aw_e 109 2 1<|qR 218<|qH<|qM 1 111<|fX (
  .e 6 1) ?_
 exact qE<|qD 54 55<|aw_e 109 2 1<|qP 219<|q5 0<|qG<|aw_e 15 2 1<|qF<|qB [.int .u64 1] kK
theorem au_b6_57  :
    AC Try.prog 174 0 ([.agg #[.int .i64 0, .int .i64 1]]) [] (.bool true) [] := by
 refine qK Try.func174 (fun w0 W pin => ?_)
 refine aw_e 3 2 1<|aw_d 7 (
  .a 11 2 <| .p (qC (qCF)) <| .a 2 2 <| .p (qC (bP)) <| .p (qC (qCE)) <| .e 3 2) ?_
 exact qF<|qB [.bool true] kK
theorem au_b6_58  :
    AC Try.prog 158 0 ([.agg #[.int .i64 0, .int .i64 1]]) [] (.agg #[.int .i64 0, .int .i64 1]) [] := by
 refine qK Try.func158 (fun w0 W pin => ?_)
 refine aw_e 3 2 1<|qD 6 7<|aw_p 13 (
  .a 1 3 <| .p (qC (au_b6_57)) <| .e 1 3) ?_
 exact qP 27<|qH<|aw_e 15 2 3<|qF<|qB [.agg #[.int .i64 0, .int .i64 1]] kK
theorem au_b6_59  :
    AC Try.prog 174 0 ([.agg #[.int .i64 1, .int .i64 2]]) [] (.bool true) [] := by
 refine qK Try.func174 (fun w0 W pin => ?_)
 refine aw_e 3 2 1<|aw_d 7 (
  .a 11 2 <| .p (qC (bP)) <| .a 2 2 <| .p (qC (tS)) <| .p (qC (tR)) <| .e 3 2) ?_
 exact qF<|qB [.bool true] kK
theorem au_b6_60  :
    AC Try.prog 158 0 ([.agg #[.int .i64 1, .int .i64 2]]) [] (.agg #[.int .i64 1, .int .i64 2]) [] := by
 refine qK Try.func158 (fun w0 W pin => ?_)
 refine aw_e 3 2 1<|qD 6 7<|aw_p 13 (
  .a 1 3 <| .p (qC (au_b6_59)) <| .e 1 3) ?_
 exact qP 27<|qH<|aw_e 15 2 3<|qF<|qB [.agg #[.int .i64 1, .int .i64 2]] kK
theorem au_b6_61  :
    AC Try.prog 120 0 ([.int .u64 0, .int .u64 2]) [] (.tuple #[.int .u64 0, .int .u64 0]) [] := by
 refine qK Try.func120 (fun w0 W pin => ?_)
 refine aw_e 3 2 1<|aw_e 7 3 1<|aw_e 15 3 1<|aw_e 31 3 1<|aw_e 63 3 1<|aw_e 127 4 1<|aw_e 255 7 1<|aw_w [(0, .int .u64 0), (1, .int .u64 2), (4, .int .u64 0), (5, .int .u64 0), (6, .int .u64 0), (7, .int .u64 0), (9, .int .u64 0), (11, .int .u64 0)] [] ?_
 refine aw_e 511 3 1<|aw_e 1023 3 1<|aw_e 2047 6 1<|aw_e 4095 9 1<|aw_e 8191 4 1<|aw_w [(4, .int .u64 0), (5, .int .u64 0)] [] ?_
 exact qF<|qB [.int .u64 0, .int .u64 0] kK
theorem au_b6_62  :
    AC Try.prog 92 0 ([.int .i64 0, .int .i64 2]) [] (.agg #[.int .i64 0, .int .u64 0]) [] := by
 refine qK Try.func92 (fun w0 W pin => ?_)
 refine aw_e 3 1 1<|aw_p 7 (
  .a 4 2 <| .p (qC (au_b6_61)) <| .e 5 2) ?_
 exact qD 14 15<|aw_e 29 2 2<|qP 59<|qH<|qD 30 31<|aw_e 61 2 2<|qP 123<|qH<|aw_e 63 5 2<|qF<|qB [.agg #[.int .i64 0, .int .u64 0]] kK
theorem au_b6_63  :
    AC Try.prog 159 0 ([.agg #[.int .i64 0, .int .u64 0], .agg #[.int .i64 0, .int .u64 1]]) [] (.agg #[.int .i64 0, .int .u64 1]) [] := by
 refine qK Try.func159 (fun w0 W pin => ?_)
 refine aw_e 3 3 1<|aw_p 7 (
  .a 4 4 <| .p (jT (v' := .tuple #[.int .u64 1, .int .u64 0]) (fR (run_add64 Try.func162 kK kK kK kK 0 1 0 oO oO oO oO)) kK) <| .e 5 4) ?_
 refine aw_p 15 (
  .a 7 4 <| .p (jT (v' := .tuple #[.int .u64 0, .int .u64 0]) (fR (run_add64 Try.func162 kK kK kK kK 0 0 0 oO oO oO oO)) kK) <| .e 5 4) ?_
 refine aw_w [(4, .pointer (some ⟨3, 0, none⟩)), (5, .int .u64 1), (7, .int .u64 0)] [(3, ⟨[.int .i64 0, .int .u64 0], 90, true, 2⟩)] ?_
 exact aw_e 31 5 4<|qF<|qB [.agg #[.int .i64 0, .int .u64 1]] kK
theorem au_b6_64  :
    AC Try.prog 154 0 ([.int .u64 0, .int .u64 1, .int .u64 1]) [] (.tuple #[.int .u64 1, .int .u64 0]) [] := by
 refine qK Try.func154 (fun w0 W pin => ?_)
 refine aw_e 3 2 1<|qD 6 7<|aw_e 13 2 1<|qP 27<|qH<|qD 14 15<|aw_e 29 3 1<|qP 59<|qH<|qD 30 31<|aw_e 61 2 1<|qR 122<|aw_d 245 (
  .e 8 1) ?_
 exact qF<|qB [.int .u64 1, .int .u64 0] kK
theorem qCD  :
    AC Try.prog 123 0 ([.agg #[.int .i64 0, .int .u64 1], .int .i64 1]) [] (.tuple #[.agg #[.int .i64 0, .int .u64 1], .int .i64 0, .int .i64 0]) [] := by
 refine qK Try.func123 (fun w0 W pin => ?_)
 refine aw_e 3 4 1<|qD 6 7<|aw_e 13 2 3<|qP 27<|qH<|aw_e 15 4 3<|qD 30 31<|aw_e 61 1 3<|qP 123<|qH<|aw_d 63 (
  .e 14 3) ?_
 refine aw_w [(1, .int .i64 1), (2, .pointer (some ⟨1, 0, none⟩)), (4, .pointer (some ⟨2, 0, none⟩)), (5, .int .i64 0), (6, .int .i64 0), (7, .bool false), (8, .int .u64 0), (9, .int .u64 0)] [(1, ⟨[.int .i64 0, .int .u64 1], 90, true, 2⟩), (2, ⟨[.int .i64 0, .int .u64 0], 90, true, 2⟩)] ?_
 refine aw_p 127 (
  .a 5 3 <| .p (qC (au_b6_64)) <| .e 5 3) ?_
 exact qD 254 255<|aw_e 509 1 3<|qP 1019<|qH<|aw_e 511 9 3<|qF<|qB [.agg #[.int .i64 0, .int .u64 1], .int .i64 0, .int .i64 0] kK
theorem au_b6_66  :
    AC Try.prog 160 0 ([.agg #[.int .i64 0, .int .u64 1], .int .i64 1]) [] (.tuple #[.agg #[.int .i64 0, .int .u64 1], .int .i64 0, .int .i64 0]) [] := by
 refine qK Try.func160 (fun w0 W pin => ?_)
 refine aw_e 3 4 1<|aw_p 7 (
  .a 2 3 <| .p (qC (qCD)) <| .e 6 3) ?_
 exact qF<|qB [.agg #[.int .i64 0, .int .u64 1], .int .i64 0, .int .i64 0] kK
theorem au_b6_67  :
    AC Try.prog 93 0 ([.int .i64 1]) [] (.agg #[.int .i64 0, .int .u64 1]) [] := by
 refine qK Try.func93 (fun w0 W pin => ?_)
 exact aw_e 3 1 1<|aw_e 7 6 2<|qF<|qB [.agg #[.int .i64 0, .int .u64 1]] kK
theorem au_b6_68  :
    AC Try.prog 124 0 ([.agg #[.int .i64 0, .int .u64 1]]) [] (.tuple #[.int .i64 1, .int .i64 0]) [] := by
 refine qK Try.func124 (fun w0 W pin => ?_)
 refine aw_e 3 3 1<|qD 6 7<|aw_d 13 (
  .a 4 2 <| .p (qC (au_b6_67)) <| .p (qV false ((show (!((0 == 0) && ((1 == 1) && true))) = false from by decide))) <| .nil _ _) ?_
 exact qP 27<|qH<|aw_e 15 5 2<|qF<|qB [.int .i64 1, .int .i64 0] kK
theorem au_b6_69  :
    AC Try.prog 120 0 ([.int .u64 1, .int .u64 2]) [] (.tuple #[.int .u64 0, .int .u64 2]) [] := by
 refine qK Try.func120 (fun w0 W pin => ?_)
 refine aw_e 3 2 1<|aw_e 7 3 1<|aw_e 15 3 1<|aw_e 31 3 1<|aw_e 63 3 1<|aw_e 127 4 1<|aw_e 255 7 1<|aw_w [(0, .int .u64 1), (1, .int .u64 2), (4, .int .u64 0), (5, .int .u64 0), (6, .int .u64 1), (7, .int .u64 0), (9, .int .u64 0), (11, .int .u64 0)] [] ?_
 refine aw_e 511 3 1<|aw_e 1023 3 1<|aw_e 2047 6 1<|aw_e 4095 9 1<|aw_e 8191 4 1<|aw_w [(4, .int .u64 0), (5, .int .u64 2)] [] ?_
 exact qF<|qB [.int .u64 0, .int .u64 2] kK
theorem au_b6_70  :
    AC Try.prog 92 0 ([.int .i64 1, .int .i64 2]) [] (.agg #[.int .i64 0, .int .u64 2]) [] := by
 refine qK Try.func92 (fun w0 W pin => ?_)
 refine aw_e 3 1 1<|aw_p 7 (
  .a 4 2 <| .p (qC (au_b6_69)) <| .e 5 2) ?_
 exact qD 14 15<|aw_e 29 2 2<|qP 59<|qH<|qD 30 31<|aw_e 61 2 2<|qP 123<|qH<|aw_e 63 5 2<|qF<|qB [.agg #[.int .i64 0, .int .u64 2]] kK
theorem au_b6_71  :
    AC Try.prog 93 0 ([.int .i64 2]) [] (.agg #[.int .i64 0, .int .u64 2]) [] := by
 refine qK Try.func93 (fun w0 W pin => ?_)
 exact aw_e 3 1 1<|aw_e 7 6 2<|qF<|qB [.agg #[.int .i64 0, .int .u64 2]] kK
theorem au_b6_72  :
    AC Try.prog 124 0 ([.agg #[.int .i64 0, .int .u64 2]]) [] (.tuple #[.int .i64 2, .int .i64 0]) [] := by
 refine qK Try.func124 (fun w0 W pin => ?_)
 refine aw_e 3 3 1<|qD 6 7<|aw_d 13 (
  .a 4 2 <| .p (qC (au_b6_71)) <| .p (qV false ((show (!((0 == 0) && ((2 == 2) && true))) = false from by decide))) <| .nil _ _) ?_
 exact qP 27<|qH<|aw_e 15 5 2<|qF<|qB [.int .i64 2, .int .i64 0] kK
theorem au_b6_73  :
    AC Try.prog 126 0 ([.agg #[.int .i64 0, .int .i64 1], .agg #[.int .i64 1, .int .i64 2]]) [] (.tuple #[.agg #[.int .i64 1, .int .i64 2], .int .i64 0]) [] := by
 refine qK Try.func126 (fun w0 W pin => ?_)
 refine aw_e 3 4 1<|aw_d 7 (
  .a 1 4 <| .p (qC (au_b6_58)) <| .a 1 4 <| .p (qC (au_b6_60)) <| .e 2 4) ?_
 refine aw_d 15 (
  .a 2 4 <| .p (qC (bP)) <| .a 2 4 <| .p (qC (tS)) <| .p (qC (tR)) <| .e 2 4) ?_
 refine aw_d 31 (
  .a 6 4 <| .p (qC (au_b6_62)) <| .a 6 4 <| .p (qC (qCG)) <| .p (qC (au_b6_63)) <| .e 2 4) ?_
 refine aw_w [(2, .pointer (some ⟨1, 0, none⟩)), (3, .pointer (some ⟨2, 0, none⟩)), (4, .pointer (some ⟨3, 0, none⟩)), (5, .int .i64 0), (6, .int .i64 1), (7, .pointer (some ⟨4, 0, none⟩))] [(1, ⟨[.int .i64 0, .int .i64 1], 59, true, 2⟩), (2, ⟨[.int .i64 1, .int .i64 2], 59, true, 2⟩), (3, ⟨[.int .i64 0, .int .i64 0], 59, true, 2⟩), (4, ⟨[.int .i64 0, .int .u64 1], 90, true, 2⟩)] ?_
 refine aw_p 63 (
  .a 2 5 <| .p (qC (qCD)) <| .e 8 5) ?_
 refine aw_p 127 (
  .a 1 6 <| .p (qC (qCF)) <| .a 1 6 <| .p (qC (bP)) <| .p (qC (qCE)) <| .e 2 6) ?_
 refine aw_p 255 (
  .a 2 6 <| .p (qC (au_b6_66)) <| .e 8 6) ?_
 refine aw_w [(2, .pointer (some ⟨1, 0, none⟩)), (3, .pointer (some ⟨2, 0, none⟩)), (4, .pointer (some ⟨3, 0, none⟩)), (5, .int .i64 0), (6, .int .i64 1), (9, .int .i64 0), (11, .int .i64 1), (12, .pointer (some ⟨6, 0, none⟩))] [(1, ⟨[.int .i64 0, .int .i64 1], 59, true, 2⟩), (2, ⟨[.int .i64 1, .int .i64 2], 59, true, 2⟩), (3, ⟨[.int .i64 0, .int .i64 0], 59, true, 2⟩), (6, ⟨[.int .i64 0, .int .u64 1], 90, true, 2⟩)] ?_
 refine aw_p 511 (
  .a 1 7 <| .p (qC (au_b6_68)) <| .e 5 7) ?_
 refine aw_d 1023 (
  .a 8 7 <| .p (qC (au_b6_70)) <| .p (qC (au_b6_72)) <| .e 5 7) ?_
 refine qD 2046 2047<|aw_e 4093 14 7<|aw_w [(4, .pointer (some ⟨3, 0, none⟩)), (5, .int .i64 0), (14, .int .i64 1), (16, .int .i64 2), (96, .bool false)] [(3, ⟨[.int .i64 0, .int .i64 0], 59, true, 2⟩)] ?_
 exact qP 8187<|qH<|aw_e 4095 5 4<|qF<|qB [.agg #[.int .i64 1, .int .i64 2], .int .i64 0] kK
theorem qCC  :
    AC Try.prog 99 0 ([.int .i64 0, .int .i64 1, .int .i64 1, .int .i64 2]) [] (.agg #[.int .i64 1, .int .i64 2]) [] := by
 refine qK Try.func99 (fun w0 W pin => ?_)
 refine aw_e 3 1 1<|aw_p 7 (
  .a 2 2 <| .p (qC (qCG)) <| .a 1 2 <| .p (qC (au_b6_46)) <| .e 8 2) ?_
 refine aw_p 15 (
  .a 1 3 <| .p (qC (au_b6_48)) <| .e 5 3) ?_
 refine aw_p 31 (
  .a 2 3 <| .p (qC (au_b6_53)) <| .e 6 3) ?_
 refine aw_w [(0, .int .i64 0), (8, .pointer (some ⟨1, 0, none⟩)), (12, .int .i64 0), (14, .pointer (some ⟨3, 0, none⟩))] [(1, ⟨[.int .i64 0, .int .i64 0], 59, true, 2⟩), (3, ⟨[.int .i64 1, .int .i64 2], 59, true, 2⟩)] ?_
 refine aw_d 63 (
  .a 3 4 <| .p (qC (au_b6_54)) <| .a 1 4 <| .p (qC (au_b6_73)) <| .e 6 4) ?_
 exact aw_e 127 2 5<|qF<|qB [.agg #[.int .i64 1, .int .i64 2]] kK
theorem au_b6_75  :
    AC Try.prog 54 0 ([.agg #[.int .i64 0, .int .i64 0], .agg #[.int .i64 1, .int .i64 1], .agg #[.int .i64 0, .int .i64 1], .agg #[.int .i64 1, .int .i64 0]]) [] (.tuple #[.agg #[.int .i64 1, .int .i64 2, .int .i64 1, .int .i64 2], .int .i64 0]) [] := by
 refine qK Try.func54 (fun w0 W pin => ?_)
 refine aw_e 3 6 1<|aw_d 7 (
  .a 1 6 <| .p (qC (vB)) <| .a 1 6 <| .p (qC (yX)) <| .a 1 6 <| .p (qC (wH)) <| .a 1 6 <| .p (qC (dV)) <| .e 4 6) ?_
 refine qD 14 15<|aw_p 29 (
  .a 4 6 <| .p (qC (au_b6_33)) <| .nil _ _) ?_
 refine qM 0 59<|aw_e 119 2 6<|aw_w [(4, .pointer (some ⟨1, 0, none⟩)), (5, .pointer (some ⟨2, 0, none⟩)), (6, .pointer (some ⟨3, 0, none⟩)), (7, .pointer (some ⟨4, 0, none⟩)), (8, .pointer (some ⟨5, 0, none⟩)), (9, .int .i64 0), (25, .int .i64 1), (26, .bool false)] [(1, ⟨[.int .i64 0, .int .i64 0], 29, true, 2⟩), (2, ⟨[.int .i64 1, .int .i64 1], 29, true, 2⟩), (3, ⟨[.int .i64 0, .int .i64 1], 29, true, 2⟩), (4, ⟨[.int .i64 1, .int .i64 0], 29, true, 2⟩), (5, ⟨[.int .i64 0, .int .i64 0, .int .i64 0, .int .i64 0], 61, true, 4⟩)] ?_
 refine qP 239<|aw_e 479 2 6<|qP 959<|qH<|qD 30 31<|aw_p 61 (
  .a 4 6 <| .p (qC (au_b6_42)) <| .e 1 6) ?_
 refine aw_e 123 3 6<|qP 247<|qH<|aw_p 63 (
  .a 3 6 <| .p (qC (qCL)) <| .e 1 6) ?_
 refine aw_p 127 (
  .a 4 6 <| .p (qC (qCJ)) <| .e 2 6) ?_
 refine qD 254 255<|aw_e 509 2 6<|aw_w [(4, .pointer (some ⟨1, 0, none⟩)), (5, .pointer (some ⟨2, 0, none⟩)), (8, .pointer (some ⟨5, 0, none⟩)), (9, .int .i64 0), (11, .int .i64 (-1)), (12, .int .i64 (-2)), (55, .bool true)] [(1, ⟨[.int .i64 0, .int .i64 0], 29, true, 2⟩), (2, ⟨[.int .i64 1, .int .i64 1], 29, true, 2⟩), (5, ⟨[.int .i64 0, .int .i64 0, .int .i64 0, .int .i64 0], 61, true, 4⟩)] ?_
 refine qR 1018<|aw_e1 6 6<|aw_d 511 (
  .a 9 6 <| .p (qC (qCC)) <| .a 9 6 <| .p (qC (qCC)) <| .e 3 6) ?_
 refine aw_w [(8, .pointer (some ⟨5, 0, none⟩)), (9, .int .i64 0)] [(5, ⟨[.int .i64 1, .int .i64 2, .int .i64 1, .int .i64 2], 61, true, 4⟩)] ?_
 exact qF<|qB [.agg #[.int .i64 1, .int .i64 2, .int .i64 1, .int .i64 2], .int .i64 0] kK
theorem dT  :
    AC Try.prog 101 0 ([.int .i64 2, .int .i64 1048576]) [] (.int .i64 2) [] := by
 refine qK Try.func101 (fun w0 W pin => ?_)
 exact aw_e 3 1 1<|aw_e 7 7 1<|qF<|qB [.int .i64 2] kK
theorem xP  :
    AC Try.prog 56 0 ([.agg #[.int .i64 2, .int .i64 0]]) [] (.agg #[.int .i64 2, .int .i64 0]) [] := by
 refine qK Try.func56 (fun w0 W pin => ?_)
 refine aw_e 3 2 1<|aw_d 7 (
  .a 2 3 <| .p (qC (dT)) <| .a 2 3 <| .p (qC (wY)) <| .e 2 3) ?_
 exact qF<|qB [.agg #[.int .i64 2, .int .i64 0]] kK
theorem tQ  :
    AC Try.prog 117 0 ([.agg #[.int .i64 0, .int .i64 0], .agg #[.int .i64 2, .int .i64 0]]) [] (.agg #[.int .i64 2, .int .i64 0]) [] := by
 refine qK Try.func117 (fun w0 W pin => ?_)
 refine aw_e 3 3 1<|aw_d 7 (
  .a 1 4 <| .p (qC (vB)) <| .a 1 4 <| .p (qC (xP)) <| .e 2 4) ?_
 exact aw_e 15 12 4<|qF<|qB [.agg #[.int .i64 2, .int .i64 0]] kK
theorem yA  :
    AC Try.prog 56 0 ([.agg #[.int .i64 2, .int .i64 2]]) [] (.agg #[.int .i64 2, .int .i64 2]) [] := by
 refine qK Try.func56 (fun w0 W pin => ?_)
 refine aw_e 3 2 1<|aw_d 7 (
  .a 2 3 <| .p (qC (dT)) <| .a 2 3 <| .p (qC (dT)) <| .e 2 3) ?_
 exact qF<|qB [.agg #[.int .i64 2, .int .i64 2]] kK
theorem qCB  :
    AC Try.prog 117 0 ([.agg #[.int .i64 0, .int .i64 0], .agg #[.int .i64 2, .int .i64 2]]) [] (.agg #[.int .i64 2, .int .i64 2]) [] := by
 refine qK Try.func117 (fun w0 W pin => ?_)
 refine aw_e 3 3 1<|aw_d 7 (
  .a 1 4 <| .p (qC (vB)) <| .a 1 4 <| .p (qC (yA)) <| .e 2 4) ?_
 exact aw_e 15 12 4<|qF<|qB [.agg #[.int .i64 2, .int .i64 2]] kK
theorem qCA  :
    AC Try.prog 80 0 ([.agg #[.int .i64 0, .int .i64 0], .agg #[.int .i64 2, .int .i64 0], .agg #[.int .i64 2, .int .i64 2]]) [] (.int .i64 4) [] := by
 refine qK Try.func80 (fun w0 W pin => ?_)
 refine aw_e 3 4 1<|aw_d 7 (
  .a 2 4 <| .p (qC (tQ)) <| .a 2 4 <| .p (qC (qCB)) <| .e 4 4) ?_
 refine aw_e 15 12 6<|aw_w [(6, .int .i64 4)] [] ?_
 exact qF<|qB [.int .i64 4] kK
theorem xN  :
    AC Try.prog 56 0 ([.agg #[.int .i64 0, .int .i64 2]]) [] (.agg #[.int .i64 0, .int .i64 2]) [] := by
 refine qK Try.func56 (fun w0 W pin => ?_)
 refine aw_e 3 2 1<|aw_d 7 (
  .a 2 3 <| .p (qC (wY)) <| .a 2 3 <| .p (qC (dT)) <| .e 2 3) ?_
 exact qF<|qB [.agg #[.int .i64 0, .int .i64 2]] kK
theorem tP  :
    AC Try.prog 117 0 ([.agg #[.int .i64 0, .int .i64 0], .agg #[.int .i64 0, .int .i64 2]]) [] (.agg #[.int .i64 0, .int .i64 2]) [] := by
 refine qK Try.func117 (fun w0 W pin => ?_)
 refine aw_e 3 3 1<|aw_d 7 (
  .a 1 4 <| .p (qC (vB)) <| .a 1 4 <| .p (qC (xN)) <| .e 2 4) ?_
 exact aw_e 15 12 4<|qF<|qB [.agg #[.int .i64 0, .int .i64 2]] kK
theorem au_b6_84  :
    AC Try.prog 80 0 ([.agg #[.int .i64 0, .int .i64 0], .agg #[.int .i64 2, .int .i64 2], .agg #[.int .i64 0, .int .i64 2]]) [] (.int .i64 4) [] := by
 refine qK Try.func80 (fun w0 W pin => ?_)
 refine aw_e 3 4 1<|aw_d 7 (
  .a 2 4 <| .p (qC (qCB)) <| .a 2 4 <| .p (qC (tP)) <| .e 4 4) ?_
 refine aw_e 15 12 6<|aw_w [(6, .int .i64 4)] [] ?_
 exact qF<|qB [.int .i64 4] kK
theorem au_b6_85  :
    AC Try.prog 90 1 ([.slice (some ⟨0, 0, none⟩) 4 0]) [(0, ⟨[.int .i64 0, .int .i64 0, .int .i64 2, .int .i64 0, .int .i64 2, .int .i64 2, .int .i64 0, .int .i64 2], 29, true, 2⟩)] (.int .i64 8) [(0, ⟨[.int .i64 0, .int .i64 0, .int .i64 2, .int .i64 0, .int .i64 2, .int .i64 2, .int .i64 0, .int .i64 2], 29, true, 2⟩)] := by
 refine qK Try.func90 (fun w0 W pin => ?_)
 refine aw_e 3 1 1<|aw_e 7 1 1<|qD 14 15<|aw_e 29 1 1<|qM 0 59<|q6 119<|qE<|qD 238 239<|aw_e 477 4 1<|qR 954<|qH<|qD 478 479<|qM 1 957<|fX (
  .a 13 1 <| .p (qC (qCA)) <| .e 2 1) ?_
 refine aw_e1 3 1<|qE<|qD 238 239<|aw_e 477 4 1<|aw_w [(0, .slice (some ⟨0, 0, none⟩) 4 0), (2, .int .i64 0), (3, .int .i64 4), (4, .int .i64 3), (8, .bool true)] [(0, ⟨[.int .i64 0, .int .i64 0, .int .i64 2, .int .i64 0, .int .i64 2, .int .i64 2, .int .i64 0, .int .i64 2], 29, true, 2⟩)] ?_
 refine qR 954<|qH<|qD 478 479<|qM 1 957<|fX (
  .a 13 1 <| .p (qC (au_b6_84)) <| .e 2 1) ?_
 refine aw_e1 3 1<|qE<|qD 238 239<|aw_e 477 4 1<|qP 955<|q5 0<|qG<|aw_e 31 2 1<|aw_w [(2, .int .i64 8)] [(0, ⟨[.int .i64 0, .int .i64 0, .int .i64 2, .int .i64 0, .int .i64 2, .int .i64 2, .int .i64 0, .int .i64 2], 29, true, 2⟩)] ?_
 exact qF<|qB [.int .i64 8] kK
theorem au_b6_86  :
    AC Try.prog 80 0 ([.agg #[.int .i64 0, .int .i64 0], .agg #[.int .i64 2, .int .i64 0], .agg #[.int .i64 1, .int .i64 1]]) [] (.int .i64 2) [] := by
 refine qK Try.func80 (fun w0 W pin => ?_)
 refine aw_e 3 4 1<|aw_d 7 (
  .a 2 4 <| .p (qC (tQ)) <| .a 2 4 <| .p (qC (dU)) <| .e 4 4) ?_
 refine aw_e 15 12 6<|aw_w [(6, .int .i64 2)] [] ?_
 exact qF<|qB [.int .i64 2] kK
theorem dS  :
    AC Try.prog 116 0 ([.int .i64 2]) [] (.bool false) [] := by
 refine qK Try.func116 (fun w0 W pin => ?_)
 exact aw_e 3 1 1<|aw_e 7 4 1<|qF<|qB [.bool false] kK
theorem xM  :
    AC Try.prog 79 0 ([.int .i64 2, .int .i64 0]) [] (.int .i64 1) [] := by
 refine qK Try.func79 (fun w0 W pin => ?_)
 refine aw_e 3 1 1<|aw_p 7 (
  .a 1 1 <| .p (qC (dS)) <| .e 1 1) ?_
 refine aw_p 15 (
  .a 1 1 <| .p (qC (yB)) <| .e 1 1) ?_
 exact qD 30 31<|aw_e 61 1 1<|qP 123<|qH<|qD 62 63<|aw_e 125 1 1<|qP 251<|qH<|qD 126 127<|aw_e 253 3 1<|qP 507<|qH<|qD 254 255<|aw_e 509 3 1<|qR 1018<|aw_e 2037 1 1<|qF<|qB [.int .i64 1] kK
theorem au_b6_89  :
    AC Try.prog 35 0 ([.agg #[.int .i64 0, .int .i64 0], .agg #[.int .i64 2, .int .i64 0], .agg #[.int .i64 1, .int .i64 1]]) [] (.int .i64 1) [] := by
 refine qK Try.func35 (fun w0 W pin => ?_)
 refine aw_e 3 4 1<|aw_p 7 (
  .a 3 4 <| .p (qC (au_b6_86)) <| .p (qC (xM)) <| .e 1 4) ?_
 exact qF<|qB [.int .i64 1] kK
theorem au_b6_90  :
    AC Try.prog 78 0 ([.agg #[.int .i64 0, .int .i64 0], .agg #[.int .i64 2, .int .i64 0], .agg #[.int .i64 1, .int .i64 1]]) [] (.bool false) [] := by
 refine qK Try.func78 (fun w0 W pin => ?_)
 refine aw_e 3 4 1<|aw_p 7 (
  .a 3 4 <| .p (qC (au_b6_89)) <| .e 9 4) ?_
 exact qF<|qB [.bool false] kK
theorem au_b6_91  :
    AC Try.prog 117 0 ([.agg #[.int .i64 2, .int .i64 0], .agg #[.int .i64 2, .int .i64 2]]) [] (.agg #[.int .i64 0, .int .i64 2]) [] := by
 refine qK Try.func117 (fun w0 W pin => ?_)
 refine aw_e 3 3 1<|aw_d 7 (
  .a 1 4 <| .p (qC (xP)) <| .a 1 4 <| .p (qC (yA)) <| .e 2 4) ?_
 exact aw_e 15 12 4<|qF<|qB [.agg #[.int .i64 0, .int .i64 2]] kK
theorem au_b6_92  :
    AC Try.prog 117 0 ([.agg #[.int .i64 2, .int .i64 0], .agg #[.int .i64 1, .int .i64 1]]) [] (.agg #[.int .i64 (-1), .int .i64 1]) [] := by
 refine qK Try.func117 (fun w0 W pin => ?_)
 refine aw_e 3 3 1<|aw_d 7 (
  .a 1 4 <| .p (qC (xP)) <| .a 1 4 <| .p (qC (yX)) <| .e 2 4) ?_
 exact aw_e 15 12 4<|qF<|qB [.agg #[.int .i64 (-1), .int .i64 1]] kK
theorem au_b6_93  :
    AC Try.prog 80 0 ([.agg #[.int .i64 2, .int .i64 0], .agg #[.int .i64 2, .int .i64 2], .agg #[.int .i64 1, .int .i64 1]]) [] (.int .i64 2) [] := by
 refine qK Try.func80 (fun w0 W pin => ?_)
 refine aw_e 3 4 1<|aw_d 7 (
  .a 2 4 <| .p (qC (au_b6_91)) <| .a 2 4 <| .p (qC (au_b6_92)) <| .e 4 4) ?_
 refine aw_e 15 12 6<|aw_w [(6, .int .i64 2)] [] ?_
 exact qF<|qB [.int .i64 2] kK
theorem qC9  :
    AC Try.prog 35 0 ([.agg #[.int .i64 2, .int .i64 0], .agg #[.int .i64 2, .int .i64 2], .agg #[.int .i64 1, .int .i64 1]]) [] (.int .i64 1) [] := by
 refine qK Try.func35 (fun w0 W pin => ?_)
 refine aw_e 3 4 1<|aw_p 7 (
  .a 3 4 <| .p (qC (au_b6_93)) <| .p (qC (xM)) <| .e 1 4) ?_
 exact qF<|qB [.int .i64 1] kK
theorem au_b6_95  :
    AC Try.prog 78 0 ([.agg #[.int .i64 2, .int .i64 0], .agg #[.int .i64 2, .int .i64 2], .agg #[.int .i64 1, .int .i64 1]]) [] (.bool false) [] := by
 refine qK Try.func78 (fun w0 W pin => ?_)
 refine aw_e 3 4 1<|aw_p 7 (
  .a 3 4 <| .p (qC (qC9)) <| .e 9 4) ?_
 exact qF<|qB [.bool false] kK
theorem tN  :
    AC Try.prog 117 0 ([.agg #[.int .i64 2, .int .i64 2], .agg #[.int .i64 0, .int .i64 2]]) [] (.agg #[.int .i64 (-2), .int .i64 0]) [] := by
 refine qK Try.func117 (fun w0 W pin => ?_)
 refine aw_e 3 3 1<|aw_d 7 (
  .a 1 4 <| .p (qC (yA)) <| .a 1 4 <| .p (qC (xN)) <| .e 2 4) ?_
 exact aw_e 15 12 4<|qF<|qB [.agg #[.int .i64 (-2), .int .i64 0]] kK
theorem au_b6_97  :
    AC Try.prog 117 0 ([.agg #[.int .i64 2, .int .i64 2], .agg #[.int .i64 1, .int .i64 1]]) [] (.agg #[.int .i64 (-1), .int .i64 (-1)]) [] := by
 refine qK Try.func117 (fun w0 W pin => ?_)
 refine aw_e 3 3 1<|aw_d 7 (
  .a 1 4 <| .p (qC (yA)) <| .a 1 4 <| .p (qC (yX)) <| .e 2 4) ?_
 exact aw_e 15 12 4<|qF<|qB [.agg #[.int .i64 (-1), .int .i64 (-1)]] kK
theorem au_b6_98  :
    AC Try.prog 80 0 ([.agg #[.int .i64 2, .int .i64 2], .agg #[.int .i64 0, .int .i64 2], .agg #[.int .i64 1, .int .i64 1]]) [] (.int .i64 2) [] := by
 refine qK Try.func80 (fun w0 W pin => ?_)
 refine aw_e 3 4 1<|aw_d 7 (
  .a 2 4 <| .p (qC (tN)) <| .a 2 4 <| .p (qC (au_b6_97)) <| .e 4 4) ?_
 refine aw_e 15 12 6<|aw_w [(6, .int .i64 2)] [] ?_
 exact qF<|qB [.int .i64 2] kK
theorem au_b6_99  :
    AC Try.prog 35 0 ([.agg #[.int .i64 2, .int .i64 2], .agg #[.int .i64 0, .int .i64 2], .agg #[.int .i64 1, .int .i64 1]]) [] (.int .i64 1) [] := by
 refine qK Try.func35 (fun w0 W pin => ?_)
 refine aw_e 3 4 1<|aw_p 7 (
  .a 3 4 <| .p (qC (au_b6_98)) <| .p (qC (xM)) <| .e 1 4) ?_
 exact qF<|qB [.int .i64 1] kK
theorem au_b6_100  :
    AC Try.prog 78 0 ([.agg #[.int .i64 2, .int .i64 2], .agg #[.int .i64 0, .int .i64 2], .agg #[.int .i64 1, .int .i64 1]]) [] (.bool false) [] := by
 refine qK Try.func78 (fun w0 W pin => ?_)
 refine aw_e 3 4 1<|aw_p 7 (
  .a 3 4 <| .p (qC (au_b6_99)) <| .e 9 4) ?_
 exact qF<|qB [.bool false] kK
theorem au_b6_101  :
    AC Try.prog 117 0 ([.agg #[.int .i64 0, .int .i64 2], .agg #[.int .i64 0, .int .i64 0]]) [] (.agg #[.int .i64 0, .int .i64 (-2)]) [] := by
 refine qK Try.func117 (fun w0 W pin => ?_)
 refine aw_e 3 3 1<|aw_d 7 (
  .a 1 4 <| .p (qC (xN)) <| .a 1 4 <| .p (qC (vB)) <| .e 2 4) ?_
 exact aw_e 15 12 4<|qF<|qB [.agg #[.int .i64 0, .int .i64 (-2)]] kK
theorem au_b6_102  :
    AC Try.prog 117 0 ([.agg #[.int .i64 0, .int .i64 2], .agg #[.int .i64 1, .int .i64 1]]) [] (.agg #[.int .i64 1, .int .i64 (-1)]) [] := by
 refine qK Try.func117 (fun w0 W pin => ?_)
 refine aw_e 3 3 1<|aw_d 7 (
  .a 1 4 <| .p (qC (xN)) <| .a 1 4 <| .p (qC (yX)) <| .e 2 4) ?_
 exact aw_e 15 12 4<|qF<|qB [.agg #[.int .i64 1, .int .i64 (-1)]] kK
theorem au_b6_103  :
    AC Try.prog 80 0 ([.agg #[.int .i64 0, .int .i64 2], .agg #[.int .i64 0, .int .i64 0], .agg #[.int .i64 1, .int .i64 1]]) [] (.int .i64 2) [] := by
 refine qK Try.func80 (fun w0 W pin => ?_)
 refine aw_e 3 4 1<|aw_d 7 (
  .a 2 4 <| .p (qC (au_b6_101)) <| .a 2 4 <| .p (qC (au_b6_102)) <| .e 4 4) ?_
 refine aw_e 15 12 6<|aw_w [(6, .int .i64 2)] [] ?_
 exact qF<|qB [.int .i64 2] kK
theorem au_b6_104  :
    AC Try.prog 35 0 ([.agg #[.int .i64 0, .int .i64 2], .agg #[.int .i64 0, .int .i64 0], .agg #[.int .i64 1, .int .i64 1]]) [] (.int .i64 1) [] := by
 refine qK Try.func35 (fun w0 W pin => ?_)
 refine aw_e 3 4 1<|aw_p 7 (
  .a 3 4 <| .p (qC (au_b6_103)) <| .p (qC (xM)) <| .e 1 4) ?_
 exact qF<|qB [.int .i64 1] kK
theorem au_b6_105  :
    AC Try.prog 78 0 ([.agg #[.int .i64 0, .int .i64 2], .agg #[.int .i64 0, .int .i64 0], .agg #[.int .i64 1, .int .i64 1]]) [] (.bool false) [] := by
 refine qK Try.func78 (fun w0 W pin => ?_)
 refine aw_e 3 4 1<|aw_p 7 (
  .a 3 4 <| .p (qC (au_b6_104)) <| .e 9 4) ?_
 exact qF<|qB [.bool false] kK
theorem au_b6_106  :
    AC Try.prog 80 0 ([.agg #[.int .i64 0, .int .i64 0], .agg #[.int .i64 0, .int .i64 2], .agg #[.int .i64 1, .int .i64 1]]) [] (.int .i64 (-2)) [] := by
 refine qK Try.func80 (fun w0 W pin => ?_)
 refine aw_e 3 4 1<|aw_d 7 (
  .a 2 4 <| .p (qC (tP)) <| .a 2 4 <| .p (qC (dU)) <| .e 4 4) ?_
 refine aw_e 15 12 6<|aw_w [(6, .int .i64 (-2))] [] ?_
 exact qF<|qB [.int .i64 (-2)] kK
theorem au_b6_107  :
    AC Try.prog 116 0 ([.int .i64 (-2)]) [] (.bool false) [] := by
 refine qK Try.func116 (fun w0 W pin => ?_)
 exact aw_e 3 1 1<|aw_e 7 4 1<|qF<|qB [.bool false] kK
theorem au_b6_108  :
    AC Try.prog 79 0 ([.int .i64 (-2), .int .i64 0]) [] (.int .i64 (-1)) [] := by
 refine qK Try.func79 (fun w0 W pin => ?_)
 refine aw_e 3 1 1<|aw_p 7 (
  .a 1 1 <| .p (qC (au_b6_107)) <| .e 1 1) ?_
 refine aw_p 15 (
  .a 1 1 <| .p (qC (yB)) <| .e 1 1) ?_
 exact qD 30 31<|aw_e 61 1 1<|qP 123<|qH<|qD 62 63<|aw_e 125 1 1<|qP 251<|qH<|qD 126 127<|aw_e 253 3 1<|qR 506<|aw_e 1013 1 1<|qF<|qB [.int .i64 (-1)] kK
theorem au_b6_109  :
    AC Try.prog 35 0 ([.agg #[.int .i64 0, .int .i64 0], .agg #[.int .i64 0, .int .i64 2], .agg #[.int .i64 1, .int .i64 1]]) [] (.int .i64 (-1)) [] := by
 refine qK Try.func35 (fun w0 W pin => ?_)
 refine aw_e 3 4 1<|aw_p 7 (
  .a 3 4 <| .p (qC (au_b6_106)) <| .p (qC (au_b6_108)) <| .e 1 4) ?_
 exact qF<|qB [.int .i64 (-1)] kK
theorem au_b6_110  :
    AC Try.prog 91 1 ([.slice (some ⟨0, 0, none⟩) 4 0, .agg #[.int .i64 1, .int .i64 1]]) [(0, ⟨[.int .i64 0, .int .i64 0, .int .i64 2, .int .i64 0, .int .i64 2, .int .i64 2, .int .i64 0, .int .i64 2], 29, true, 2⟩)] (.int .i64 1) [(0, ⟨[.int .i64 0, .int .i64 0, .int .i64 2, .int .i64 0, .int .i64 2, .int .i64 2, .int .i64 0, .int .i64 2], 29, true, 2⟩)] := by
 refine qK Try.func91 (fun w0 W pin => ?_)
 refine aw_e 3 2 1<|aw_p 7 (
  .a 1 2 <| .p (qC (yX)) <| .e 1 2) ?_
 refine aw_e 15 1 2<|qD 30 31<|aw_e 61 3 2<|qM 0 123<|q6 247<|qE<|aw_e 495 1 2<|qD 990 991<|qR 1980<|qH<|qD 1982 1983<|qM 1 3965<|aw_e 7931 2 2<|aw_d 15863 (
  .a 4 2 <| .p (qC (vB)) <| .a 8 2 <| .p (qC (xP)) <| .e 4 2) ?_
 refine aw_w [(0, .slice (some ⟨0, 0, none⟩) 4 0), (3, .pointer (some ⟨1, 0, none⟩)), (4, .int .i64 0), (5, .int .i64 (-1)), (6, .int .i64 0), (7, .pointer (some ⟨2, 0, none⟩)), (8, .pointer (some ⟨3, 0, none⟩)), (12, .int .i64 4), (13, .int .i64 0), (14, .bool true)] [(0, ⟨[.int .i64 0, .int .i64 0, .int .i64 2, .int .i64 0, .int .i64 2, .int .i64 2, .int .i64 0, .int .i64 2], 29, true, 2⟩), (1, ⟨[.int .i64 1, .int .i64 1], 29, true, 2⟩), (2, ⟨[.int .i64 0, .int .i64 0], 29, true, 2⟩), (3, ⟨[.int .i64 2, .int .i64 0], 29, true, 2⟩)] ?_
 refine qD 31726 31727<|aw_p 63453 (
  .a 3 4 <| .p (qC (au_b6_90)) <| .nil _ _) ?_
 refine qP 126907<|qH<|qD 63454 63455<|aw_e 126909 5 4<|qP 253819<|qH<|aw_e 126911 19 4<|aw_w [(0, .slice (some ⟨0, 0, none⟩) 4 0), (3, .pointer (some ⟨1, 0, none⟩)), (4, .int .i64 0), (5, .int .i64 (-1)), (6, .int .i64 0), (7, .pointer (some ⟨2, 0, none⟩)), (8, .pointer (some ⟨3, 0, none⟩)), (12, .int .i64 4), (13, .int .i64 0), (14, .bool true), (33, .bool false), (38, .bool false), (59, .bool false)] [(0, ⟨[.int .i64 0, .int .i64 0, .int .i64 2, .int .i64 0, .int .i64 2, .int .i64 2, .int .i64 0, .int .i64 2], 29, true, 2⟩), (1, ⟨[.int .i64 1, .int .i64 1], 29, true, 2⟩), (2, ⟨[.int .i64 0, .int .i64 0], 29, true, 2⟩), (3, ⟨[.int .i64 2, .int .i64 0], 29, true, 2⟩)] ?_
 refine qP 253823<|qH<|aw_e1 2 4<|qE<|aw_e 495 1 4<|qD 990 991<|qR 1980<|qH<|qD 1982 1983<|qM 1 3965<|aw_e 7931 2 4<|aw_d 15863 (
  .a 4 4 <| .p (qC (xP)) <| .a 8 4 <| .p (qC (yA)) <| .e 4 4) ?_
 refine qD 31726 31727<|aw_p 63453 (
  .a 3 6 <| .p (qC (au_b6_95)) <| .nil _ _) ?_
 refine aw_w [(0, .slice (some ⟨0, 0, none⟩) 4 0), (3, .pointer (some ⟨1, 0, none⟩)), (4, .int .i64 0), (5, .int .i64 (-1)), (6, .int .i64 1), (7, .pointer (some ⟨4, 0, none⟩)), (8, .pointer (some ⟨5, 0, none⟩)), (12, .int .i64 4), (13, .int .i64 1), (14, .bool true), (33, .bool false), (38, .bool false), (59, .bool false)] [(0, ⟨[.int .i64 0, .int .i64 0, .int .i64 2, .int .i64 0, .int .i64 2, .int .i64 2, .int .i64 0, .int .i64 2], 29, true, 2⟩), (1, ⟨[.int .i64 1, .int .i64 1], 29, true, 2⟩), (4, ⟨[.int .i64 2, .int .i64 0], 29, true, 2⟩), (5, ⟨[.int .i64 2, .int .i64 2], 29, true, 2⟩)] ?_
 refine qP 126907<|qH<|qD 63454 63455<|aw_e 126909 5 6<|qP 253819<|qH<|aw_p 126911 (
  .a 16 6 <| .p (qC (qC9)) <| .e 2 6) ?_
 refine qR 253822<|aw_e1 3 6<|aw_e1 2 6<|qE<|aw_e 495 1 6<|aw_w [(0, .slice (some ⟨0, 0, none⟩) 4 0), (3, .pointer (some ⟨1, 0, none⟩)), (4, .int .i64 0), (5, .int .i64 1), (6, .int .i64 1), (7, .pointer (some ⟨4, 0, none⟩)), (8, .pointer (some ⟨5, 0, none⟩)), (12, .int .i64 4), (13, .int .i64 2), (14, .bool true), (33, .bool false), (38, .bool false), (59, .bool true)] [(0, ⟨[.int .i64 0, .int .i64 0, .int .i64 2, .int .i64 0, .int .i64 2, .int .i64 2, .int .i64 0, .int .i64 2], 29, true, 2⟩), (1, ⟨[.int .i64 1, .int .i64 1], 29, true, 2⟩), (4, ⟨[.int .i64 2, .int .i64 0], 29, true, 2⟩), (5, ⟨[.int .i64 2, .int .i64 2], 29, true, 2⟩)] ?_
 refine qD 990 991<|qR 1980<|qH<|qD 1982 1983<|qM 1 3965<|aw_e 7931 2 6<|aw_d 15863 (
  .a 4 6 <| .p (qC (yA)) <| .a 8 6 <| .p (qC (xN)) <| .e 4 6) ?_
 refine qD 31726 31727<|aw_p 63453 (
  .a 3 8 <| .p (qC (au_b6_100)) <| .nil _ _) ?_
 refine qP 126907<|qH<|qD 63454 63455<|aw_e 126909 5 8<|aw_w [(0, .slice (some ⟨0, 0, none⟩) 4 0), (3, .pointer (some ⟨1, 0, none⟩)), (4, .int .i64 0), (5, .int .i64 1), (6, .int .i64 2), (7, .pointer (some ⟨6, 0, none⟩)), (8, .pointer (some ⟨7, 0, none⟩)), (12, .int .i64 4), (13, .int .i64 2), (14, .bool true), (33, .bool false), (38, .bool false), (59, .bool true)] [(0, ⟨[.int .i64 0, .int .i64 0, .int .i64 2, .int .i64 0, .int .i64 2, .int .i64 2, .int .i64 0, .int .i64 2], 29, true, 2⟩), (1, ⟨[.int .i64 1, .int .i64 1], 29, true, 2⟩), (6, ⟨[.int .i64 2, .int .i64 2], 29, true, 2⟩), (7, ⟨[.int .i64 0, .int .i64 2], 29, true, 2⟩)] ?_
 refine qP 253819<|qH<|aw_e 126911 19 8<|qP 253823<|qH<|aw_e1 2 8<|qE<|aw_e 495 1 8<|qD 990 991<|qR 1980<|qH<|qD 1982 1983<|qM 1 3965<|aw_e 7931 2 8<|aw_d 15863 (
  .a 4 8 <| .p (qC (xN)) <| .a 8 8 <| .p (qC (vB)) <| .e 4 8) ?_
 refine aw_w [(0, .slice (some ⟨0, 0, none⟩) 4 0), (3, .pointer (some ⟨1, 0, none⟩)), (4, .int .i64 0), (5, .int .i64 1), (6, .int .i64 3), (7, .pointer (some ⟨8, 0, none⟩)), (8, .pointer (some ⟨9, 0, none⟩)), (12, .int .i64 4), (13, .int .i64 3), (14, .bool true), (33, .bool false), (38, .bool false), (59, .bool false)] [(0, ⟨[.int .i64 0, .int .i64 0, .int .i64 2, .int .i64 0, .int .i64 2, .int .i64 2, .int .i64 0, .int .i64 2], 29, true, 2⟩), (1, ⟨[.int .i64 1, .int .i64 1], 29, true, 2⟩), (8, ⟨[.int .i64 0, .int .i64 2], 29, true, 2⟩), (9, ⟨[.int .i64 0, .int .i64 0], 29, true, 2⟩)] ?_
 refine qD 31726 31727<|aw_p 63453 (
  .a 3 10 <| .p (qC (au_b6_105)) <| .nil _ _) ?_
 refine qP 126907<|qH<|qD 63454 63455<|aw_e 126909 5 10<|qR 253818<|aw_e1 4 10<|aw_p 126911 (
  .a 16 10 <| .p (qC (au_b6_109)) <| .e 2 10) ?_
 refine aw_w [(0, .slice (some ⟨0, 0, none⟩) 4 0), (3, .pointer (some ⟨1, 0, none⟩)), (4, .int .i64 0), (5, .int .i64 1), (6, .int .i64 3), (7, .pointer (some ⟨8, 0, none⟩)), (8, .pointer (some ⟨9, 0, none⟩)), (12, .int .i64 4), (13, .int .i64 3), (14, .bool true), (33, .bool false), (38, .bool true), (59, .bool false)] [(0, ⟨[.int .i64 0, .int .i64 0, .int .i64 2, .int .i64 0, .int .i64 2, .int .i64 2, .int .i64 0, .int .i64 2], 29, true, 2⟩), (1, ⟨[.int .i64 1, .int .i64 1], 29, true, 2⟩), (8, ⟨[.int .i64 0, .int .i64 0], 29, true, 2⟩), (9, ⟨[.int .i64 0, .int .i64 2], 29, true, 2⟩)] ?_
 exact qP 253823<|qH<|aw_e1 2 10<|qE<|aw_e 495 1 10<|qD 990 991<|qP 1981<|q5 0<|qG<|aw_e 63 2 10<|qF<|qB [.int .i64 1] kK
theorem au_b6_111  :
    AC Try.prog 120 0 ([.int .u64 3, .int .u64 5]) [] (.tuple #[.int .u64 0, .int .u64 15]) [] := by
 refine qK Try.func120 (fun w0 W pin => ?_)
 refine aw_e 3 2 1<|aw_e 7 3 1<|aw_e 15 3 1<|aw_e 31 3 1<|aw_e 63 3 1<|aw_e 127 4 1<|aw_e 255 7 1<|aw_w [(0, .int .u64 3), (1, .int .u64 5), (4, .int .u64 0), (5, .int .u64 0), (6, .int .u64 3), (7, .int .u64 0), (9, .int .u64 0), (11, .int .u64 0)] [] ?_
 refine aw_e 511 3 1<|aw_e 1023 3 1<|aw_e 2047 6 1<|aw_e 4095 9 1<|aw_e 8191 4 1<|aw_w [(4, .int .u64 0), (5, .int .u64 15)] [] ?_
 exact qF<|qB [.int .u64 0, .int .u64 15] kK
theorem au_b6_112  :
    AC Try.prog 92 0 ([.int .i64 3, .int .i64 5]) [] (.agg #[.int .i64 0, .int .u64 15]) [] := by
 refine qK Try.func92 (fun w0 W pin => ?_)
 refine aw_e 3 1 1<|aw_p 7 (
  .a 4 2 <| .p (qC (au_b6_111)) <| .e 5 2) ?_
 exact qD 14 15<|aw_e 29 2 2<|qP 59<|qH<|qD 30 31<|aw_e 61 2 2<|qP 123<|qH<|aw_e 63 5 2<|qF<|qB [.agg #[.int .i64 0, .int .u64 15]] kK
theorem au_b6_113  :
    AC Try.prog 93 0 ([.int .i64 15]) [] (.agg #[.int .i64 0, .int .u64 15]) [] := by
 refine qK Try.func93 (fun w0 W pin => ?_)
 exact aw_e 3 1 1<|aw_e 7 6 2<|qF<|qB [.agg #[.int .i64 0, .int .u64 15]] kK
theorem au_b6_114  :
    AC Try.prog 145 0 ([.int .u64 4]) [] (.int .i64 3) [] := by
 refine qK Try.func145 (fun w0 W pin => ?_)
 refine aw_e 3 1 1<|qD 6 7<|aw_e 13 2 1<|qP 27<|qH<|qD 14 15<|aw_e 29 2 1<|qP 59<|qH<|qD 30 31<|aw_e 61 2 1<|qP 123<|qH<|aw_p 63 (
  .a 3 1 <|
  .p (jT (v' := .int .u8 3) (does_ixs (s := (ByteArray.mk #[0, 1, 2, 2, 3, 3, 3, 3, 4, 4, 4, 4, 4, 4, 4, 4, 5, 5, 5, 5, 5, 5, 5, 5, 5, 5, 5, 5, 5, 5, 5, 5, 6, 6, 6, 6, 6, 6, 6, 6, 6, 6, 6, 6, 6, 6, 6, 6, 6, 6, 6, 6, 6, 6, 6, 6, 6, 6, 6, 6, 6, 6, 6, 6, 7, 7, 7, 7, 7, 7, 7, 7, 7, 7, 7, 7, 7, 7, 7, 7, 7, 7, 7, 7, 7, 7, 7, 7, 7, 7, 7, 7, 7, 7, 7, 7, 7, 7, 7, 7, 7, 7, 7, 7, 7, 7, 7, 7, 7, 7, 7, 7, 7, 7, 7, 7, 7, 7, 7, 7, 7, 7, 7, 7, 7, 7, 7, 7, 8, 8, 8, 8, 8, 8, 8, 8, 8, 8, 8, 8, 8, 8, 8, 8, 8, 8, 8, 8, 8, 8, 8, 8, 8, 8, 8, 8, 8, 8, 8, 8, 8, 8, 8, 8, 8, 8, 8, 8, 8, 8, 8, 8, 8, 8, 8, 8, 8, 8, 8, 8, 8, 8, 8, 8, 8, 8, 8, 8, 8, 8, 8, 8, 8, 8, 8, 8, 8, 8, 8, 8, 8, 8, 8, 8, 8, 8, 8, 8, 8, 8, 8, 8, 8, 8, 8, 8, 8, 8, 8, 8, 8, 8, 8, 8, 8, 8, 8, 8, 8, 8, 8, 8, 8, 8, 8, 8, 8, 8, 8, 8, 8, 8, 8, 8, 8, 8, 8, 8, 8, 8, 8, 8, 8, 8, 8, 8])) (j := 4) (b := (3 : UInt8)) dD kK) kK) <|
  .e 3 1) ?_
 exact qF<|qB [.int .i64 3] kK
theorem au_b6_115  :
    AC Try.prog 114 0 ([.int .u64 4]) [] (.int .i64 3) [] := by
 refine qK Try.func114 (fun w0 W pin => ?_)
 refine aw_e 3 1 1<|qD 6 7<|qP 13<|qH<|aw_p 15 (
  .a 1 1 <| .p (qC (au_b6_114)) <| .e 1 1) ?_
 exact qF<|qB [.int .i64 3] kK
theorem au_b6_116  :
    AC Try.prog 82 0 ([.agg #[.int .i64 2, .int .i64 0], .agg #[.int .i64 0, .int .i64 0]]) [] (.int .i64 1) [] := by
 refine qK Try.func82 (fun w0 W pin => ?_)
 refine aw_e 3 3 1<|qD 6 7<|aw_p 13 (
  .a 4 3 <| .p (qC (xM)) <| .e 1 3) ?_
 exact aw_e 27 2 3<|qR 54<|aw_e 109 2 3<|qF<|qB [.int .i64 1] kK
theorem au_b6_117  :
    AC Try.prog 79 0 ([.int .i64 2, .int .i64 2]) [] (.int .i64 0) [] := by
 refine qK Try.func79 (fun w0 W pin => ?_)
 refine aw_e 3 1 1<|aw_p 7 (
  .a 1 1 <| .p (qC (dS)) <| .e 1 1) ?_
 refine aw_p 15 (
  .a 1 1 <| .p (qC (dS)) <| .e 1 1) ?_
 exact qD 30 31<|aw_e 61 1 1<|qP 123<|qH<|qD 62 63<|aw_e 125 1 1<|qP 251<|qH<|qD 126 127<|aw_e 253 3 1<|qP 507<|qH<|qD 254 255<|aw_e 509 3 1<|qP 1019<|qH<|aw_e 511 1 1<|qF<|qB [.int .i64 0] kK
theorem au_b6_118  :
    AC Try.prog 82 0 ([.agg #[.int .i64 2, .int .i64 2], .agg #[.int .i64 2, .int .i64 0]]) [] (.int .i64 1) [] := by
 refine qK Try.func82 (fun w0 W pin => ?_)
 refine aw_e 3 3 1<|qD 6 7<|aw_p 13 (
  .a 4 3 <| .p (qC (au_b6_117)) <| .e 1 3) ?_
 refine aw_e 27 2 3<|qP 55<|qH<|aw_p 15 (
  .a 4 3 <| .p (qC (xM)) <| .e 1 3) ?_
 exact qF<|qB [.int .i64 1] kK
theorem l6  :
    AC Try.prog 79 0 ([.int .i64 0, .int .i64 2]) [] (.int .i64 (-1)) [] := by
 refine qK Try.func79 (fun w0 W pin => ?_)
 refine aw_e 3 1 1<|aw_p 7 (
  .a 1 1 <| .p (qC (yB)) <| .e 1 1) ?_
 refine aw_p 15 (
  .a 1 1 <| .p (qC (dS)) <| .e 1 1) ?_
 exact qD 30 31<|aw_e 61 1 1<|qP 123<|qH<|qD 62 63<|aw_e 125 1 1<|qP 251<|qH<|qD 126 127<|aw_e 253 3 1<|qR 506<|aw_e 1013 1 1<|qF<|qB [.int .i64 (-1)] kK
theorem au_b6_120  :
    AC Try.prog 82 0 ([.agg #[.int .i64 0, .int .i64 2], .agg #[.int .i64 2, .int .i64 2]]) [] (.int .i64 (-1)) [] := by
 refine qK Try.func82 (fun w0 W pin => ?_)
 refine aw_e 3 3 1<|qD 6 7<|aw_p 13 (
  .a 4 3 <| .p (qC (l6)) <| .e 1 3) ?_
 exact aw_e 27 2 3<|qR 54<|aw_e 109 2 3<|qF<|qB [.int .i64 (-1)] kK
theorem au_b6_121  :
    AC Try.prog 82 0 ([.agg #[.int .i64 0, .int .i64 2], .agg #[.int .i64 2, .int .i64 0]]) [] (.int .i64 (-1)) [] := by
 refine qK Try.func82 (fun w0 W pin => ?_)
 refine aw_e 3 3 1<|qD 6 7<|aw_p 13 (
  .a 4 3 <| .p (qC (l6)) <| .e 1 3) ?_
 exact aw_e 27 2 3<|qR 54<|aw_e 109 2 3<|qF<|qB [.int .i64 (-1)] kK
theorem au_b6_122  :
    AC Try.prog 79 0 ([.int .i64 0, .int .i64 0]) [] (.int .i64 0) [] := by
 refine qK Try.func79 (fun w0 W pin => ?_)
 refine aw_e 3 1 1<|aw_p 7 (
  .a 1 1 <| .p (qC (yB)) <| .e 1 1) ?_
 refine aw_p 15 (
  .a 1 1 <| .p (qC (yB)) <| .e 1 1) ?_
 exact qD 30 31<|aw_e 61 1 1<|qP 123<|qH<|qD 62 63<|aw_e 125 1 1<|qP 251<|qH<|qD 126 127<|aw_e 253 3 1<|qP 507<|qH<|qD 254 255<|aw_e 509 3 1<|qP 1019<|qH<|aw_e 511 1 1<|qF<|qB [.int .i64 0] kK
theorem au_b6_123  :
    AC Try.prog 82 0 ([.agg #[.int .i64 0, .int .i64 2], .agg #[.int .i64 0, .int .i64 0]]) [] (.int .i64 1) [] := by
 refine qK Try.func82 (fun w0 W pin => ?_)
 refine aw_e 3 3 1<|qD 6 7<|aw_p 13 (
  .a 4 3 <| .p (qC (au_b6_122)) <| .e 1 3) ?_
 refine aw_e 27 2 3<|qP 55<|qH<|aw_p 15 (
  .a 4 3 <| .p (qC (xM)) <| .e 1 3) ?_
 exact qF<|qB [.int .i64 1] kK
theorem au_b6_124  :
    AC Try.prog 146 1 ([.slice (some ⟨0, 0, none⟩) 4 0, .int .i64 0, .int .i64 4, .func (.func 82) #[] #[]]) [(0, ⟨[.int .i64 0, .int .i64 0, .int .i64 2, .int .i64 0, .int .i64 2, .int .i64 2, .int .i64 0, .int .i64 2], 29, true, 2⟩)] (.tuple #[]) [(0, ⟨[.int .i64 0, .int .i64 0, .int .i64 0, .int .i64 2, .int .i64 2, .int .i64 0, .int .i64 2, .int .i64 2], 29, true, 2⟩)] := by
 refine qK Try.func146 (fun w0 W pin => ?_)
 refine aw_e 3 3 1<|qM 0 7<|q6 15<|qE<|qD 30 31<|aw_e 61 3 1<|qR 122<|qH<|qD 62 63<|qM 1 125<|aw_e 251 2 1<|qM 2 503<|q6 1007<|qE<|qD 2014 2015<|aw_d 4029 (
  .a 14 1 <| .p (qC (au_b6_116)) <| .e 2 1) ?_
 refine aw_w [(0, .slice (some ⟨0, 0, none⟩) 4 0), (1, .int .i64 0), (2, .int .i64 4), (3, .func (.func 82) #[] #[]), (8, .int .i64 1), (9, .int .i64 1), (14, .bool true), (34, .bool false)] [(0, ⟨[.int .i64 0, .int .i64 0, .int .i64 2, .int .i64 0, .int .i64 2, .int .i64 2, .int .i64 0, .int .i64 2], 29, true, 2⟩)] ?_
 refine qP 8059<|q5 2<|qG<|aw_e1 3 1<|qE<|qD 30 31<|aw_e 61 3 1<|qR 122<|qH<|qD 62 63<|qM 1 125<|aw_e 251 2 1<|qM 2 503<|q6 1007<|qE<|qD 2014 2015<|aw_d 4029 (
  .a 14 1 <| .p (qC (au_b6_118)) <| .e 2 1) ?_
 refine aw_w [(0, .slice (some ⟨0, 0, none⟩) 4 0), (1, .int .i64 0), (2, .int .i64 4), (3, .func (.func 82) #[] #[]), (8, .int .i64 2), (9, .int .i64 2), (14, .bool true), (34, .bool false)] [(0, ⟨[.int .i64 0, .int .i64 0, .int .i64 2, .int .i64 0, .int .i64 2, .int .i64 2, .int .i64 0, .int .i64 2], 29, true, 2⟩)] ?_
 refine qP 8059<|q5 2<|qG<|aw_e1 3 1<|qE<|qD 30 31<|aw_e 61 3 1<|qR 122<|qH<|qD 62 63<|qM 1 125<|aw_e 251 2 1<|qM 2 503<|q6 1007<|qE<|qD 2014 2015<|aw_d 4029 (
  .a 14 1 <| .p (qC (au_b6_120)) <| .e 2 1) ?_
 refine aw_w [(0, .slice (some ⟨0, 0, none⟩) 4 0), (1, .int .i64 0), (2, .int .i64 4), (3, .func (.func 82) #[] #[]), (8, .int .i64 3), (9, .int .i64 3), (14, .bool true), (34, .bool true)] [(0, ⟨[.int .i64 0, .int .i64 0, .int .i64 2, .int .i64 0, .int .i64 2, .int .i64 2, .int .i64 0, .int .i64 2], 29, true, 2⟩)] ?_
 refine qR 8058<|qH<|qD 4030 4031<|qM 3 8061<|fX (
  .e 18 1) ?_
 refine aw_e1 3 1<|qE<|qD 2014 2015<|aw_d 4029 (
  .a 14 1 <| .p (qC (au_b6_121)) <| .e 2 1) ?_
 refine aw_w [(0, .slice (some ⟨0, 0, none⟩) 4 0), (1, .int .i64 0), (2, .int .i64 4), (3, .func (.func 82) #[] #[]), (8, .int .i64 3), (9, .int .i64 2), (14, .bool true), (34, .bool true)] [(0, ⟨[.int .i64 0, .int .i64 0, .int .i64 2, .int .i64 0, .int .i64 0, .int .i64 2, .int .i64 2, .int .i64 2], 29, true, 2⟩)] ?_
 refine qR 8058<|qH<|qD 4030 4031<|qM 3 8061<|fX (
  .e 18 1) ?_
 refine aw_e1 3 1<|qE<|qD 2014 2015<|aw_d 4029 (
  .a 14 1 <| .p (qC (au_b6_123)) <| .e 2 1) ?_
 refine aw_w [(0, .slice (some ⟨0, 0, none⟩) 4 0), (1, .int .i64 0), (2, .int .i64 4), (3, .func (.func 82) #[] #[]), (8, .int .i64 3), (9, .int .i64 1), (14, .bool true), (34, .bool false)] [(0, ⟨[.int .i64 0, .int .i64 0, .int .i64 0, .int .i64 2, .int .i64 2, .int .i64 0, .int .i64 2, .int .i64 2], 29, true, 2⟩)] ?_
 exact qP 8059<|q5 2<|qG<|aw_e1 3 1<|qE<|qD 30 31<|aw_e 61 3 1<|qP 123<|q5 0<|qG<|v8 [] kK
theorem au_b6_125  :
    AC Try.prog 118 1 ([.slice (some ⟨0, 0, none⟩) 4 0, .int .i64 0, .int .i64 4, .int .i64 3, .func (.func 82) #[] #[]]) [(0, ⟨[.int .i64 0, .int .i64 0, .int .i64 2, .int .i64 0, .int .i64 2, .int .i64 2, .int .i64 0, .int .i64 2], 29, true, 2⟩)] (.tuple #[]) [(0, ⟨[.int .i64 0, .int .i64 0, .int .i64 0, .int .i64 2, .int .i64 2, .int .i64 0, .int .i64 2, .int .i64 2], 29, true, 2⟩)] := by
 refine qK Try.func118 (fun w0 W pin => ?_)
 refine aw_e 3 1 1<|aw_e 7 1 1<|qM 0 15<|q6 31<|qE<|qM 1 63<|aw_e 127 4 1<|qD 254 255<|aw_e 509 2 1<|qR 1018<|aw_p 2037 (
  .a 4 1 <| .p (qQ [0] (au_b6_124)) <| .nil _ _) ?_
 exact qF<|qB [] kK
theorem au_b6_126  :
    AC Try.prog 81 1 ([.slice (some ⟨0, 0, none⟩) 4 0, .func (.func 82) #[] #[]]) [(0, ⟨[.int .i64 0, .int .i64 0, .int .i64 2, .int .i64 0, .int .i64 2, .int .i64 2, .int .i64 0, .int .i64 2], 29, true, 2⟩)] (.tuple #[]) [(0, ⟨[.int .i64 0, .int .i64 0, .int .i64 0, .int .i64 2, .int .i64 2, .int .i64 0, .int .i64 2, .int .i64 2], 29, true, 2⟩)] := by
 refine qK Try.func81 (fun w0 W pin => ?_)
 refine aw_e 3 3 1<|qW (
  .a 4 1 <| .p (qC (au_b6_115)) <| .a 1 1 <| .p (qQ [0] (au_b6_125)) <| .nil _ _) ?_
 exact v8 [] kK
theorem au_b6_127  :
    AC Try.prog 83 1 ([.slice (some ⟨0, 0, none⟩) 4 0]) [(0, ⟨[.int .i64 0, .int .i64 0, .int .i64 0, .int .i64 2, .int .i64 2, .int .i64 0, .int .i64 2, .int .i64 2], 29, true, 2⟩)] (.slice (some ⟨0, 0, none⟩) 4 0) [(0, ⟨[.int .i64 0, .int .i64 0, .int .i64 0, .int .i64 2, .int .i64 2, .int .i64 0, .int .i64 2, .int .i64 2], 29, true, 2⟩)] := by
 refine qK Try.func83 (fun w0 W pin => ?_)
 refine aw_e 3 1 1<|qD 6 7<|aw_e 13 3 1<|qP 27<|qH<|qD 14 15<|aw_e 29 1 1<|qM 0 59<|q6 119<|qE<|qD 238 239<|aw_e 477 4 1<|qR 954<|qH<|qD 478 479<|qM 1 957<|aw_d 1915 (
  .a 9 1 <| .p (qV false ((show ((0 == 0) && ((2 == 0) && true)) = false from by decide))) <| .nil _ _) ?_
 refine qP 3831<|qH<|aw_e1 3 1<|qE<|qD 238 239<|aw_e 477 4 1<|aw_w [(0, .slice (some ⟨0, 0, none⟩) 4 0), (2, .slice none 0 0), (3, .int .i64 2), (13, .bool true), (25, .bool false)] [(0, ⟨[.int .i64 0, .int .i64 0, .int .i64 0, .int .i64 2, .int .i64 2, .int .i64 0, .int .i64 2, .int .i64 2], 29, true, 2⟩)] ?_
 refine qR 954<|qH<|qD 478 479<|qM 1 957<|aw_d 1915 (
  .a 9 1 <| .p (qV false ((show ((2 == 0) && ((0 == 2) && true)) = false from by decide))) <| .nil _ _) ?_
 refine qP 3831<|qH<|aw_e1 3 1<|qE<|qD 238 239<|aw_e 477 4 1<|qR 954<|qH<|qD 478 479<|qM 1 957<|aw_d 1915 (
  .a 9 1 <| .p (qV false ((show ((2 == 2) && ((2 == 0) && true)) = false from by decide))) <| .nil _ _) ?_
 refine aw_w [(0, .slice (some ⟨0, 0, none⟩) 4 0), (2, .slice none 0 0), (3, .int .i64 3), (13, .bool true), (25, .bool false)] [(0, ⟨[.int .i64 0, .int .i64 0, .int .i64 0, .int .i64 2, .int .i64 2, .int .i64 0, .int .i64 2, .int .i64 2], 29, true, 2⟩)] ?_
 exact qP 3831<|qH<|aw_e1 3 1<|qE<|qD 238 239<|aw_e 477 4 1<|qP 955<|q5 0<|qG<|aw_e 31 2 1<|qF<|qB [.slice (some ⟨0, 0, none⟩) 4 0] kK
theorem au_b6_128  :
    AC Try.prog 80 0 ([.agg #[.int .i64 0, .int .i64 0], .agg #[.int .i64 0, .int .i64 2], .agg #[.int .i64 2, .int .i64 0]]) [] (.int .i64 (-4)) [] := by
 refine qK Try.func80 (fun w0 W pin => ?_)
 refine aw_e 3 4 1<|aw_d 7 (
  .a 2 4 <| .p (qC (tP)) <| .a 2 4 <| .p (qC (tQ)) <| .e 4 4) ?_
 refine aw_e 15 12 6<|aw_w [(6, .int .i64 (-4))] [] ?_
 exact qF<|qB [.int .i64 (-4)] kK
theorem au_b6_129  :
    AC Try.prog 116 0 ([.int .i64 (-4)]) [] (.bool false) [] := by
 refine qK Try.func116 (fun w0 W pin => ?_)
 exact aw_e 3 1 1<|aw_e 7 4 1<|qF<|qB [.bool false] kK
theorem l5  :
    AC Try.prog 79 0 ([.int .i64 (-4), .int .i64 0]) [] (.int .i64 (-1)) [] := by
 refine qK Try.func79 (fun w0 W pin => ?_)
 refine aw_e 3 1 1<|aw_p 7 (
  .a 1 1 <| .p (qC (au_b6_129)) <| .e 1 1) ?_
 refine aw_p 15 (
  .a 1 1 <| .p (qC (yB)) <| .e 1 1) ?_
 exact qD 30 31<|aw_e 61 1 1<|qP 123<|qH<|qD 62 63<|aw_e 125 1 1<|qP 251<|qH<|qD 126 127<|aw_e 253 3 1<|qR 506<|aw_e 1013 1 1<|qF<|qB [.int .i64 (-1)] kK
theorem au_b6_131  :
    AC Try.prog 35 0 ([.agg #[.int .i64 0, .int .i64 0], .agg #[.int .i64 0, .int .i64 2], .agg #[.int .i64 2, .int .i64 0]]) [] (.int .i64 (-1)) [] := by
 refine qK Try.func35 (fun w0 W pin => ?_)
 refine aw_e 3 4 1<|aw_p 7 (
  .a 3 4 <| .p (qC (au_b6_128)) <| .p (qC (l5)) <| .e 1 4) ?_
 exact qF<|qB [.int .i64 (-1)] kK
theorem au_b6_132  :
    AC Try.prog 116 0 ([.int .i64 4]) [] (.bool false) [] := by
 refine qK Try.func116 (fun w0 W pin => ?_)
 exact aw_e 3 1 1<|aw_e 7 4 1<|qF<|qB [.bool false] kK
theorem l4  :
    AC Try.prog 79 0 ([.int .i64 4, .int .i64 0]) [] (.int .i64 1) [] := by
 refine qK Try.func79 (fun w0 W pin => ?_)
 refine aw_e 3 1 1<|aw_p 7 (
  .a 1 1 <| .p (qC (au_b6_132)) <| .e 1 1) ?_
 refine aw_p 15 (
  .a 1 1 <| .p (qC (yB)) <| .e 1 1) ?_
 exact qD 30 31<|aw_e 61 1 1<|qP 123<|qH<|qD 62 63<|aw_e 125 1 1<|qP 251<|qH<|qD 126 127<|aw_e 253 3 1<|qP 507<|qH<|qD 254 255<|aw_e 509 3 1<|qR 1018<|aw_e 2037 1 1<|qF<|qB [.int .i64 1] kK
theorem au_b6_134  :
    AC Try.prog 35 0 ([.agg #[.int .i64 0, .int .i64 0], .agg #[.int .i64 2, .int .i64 0], .agg #[.int .i64 2, .int .i64 2]]) [] (.int .i64 1) [] := by
 refine qK Try.func35 (fun w0 W pin => ?_)
 refine aw_e 3 4 1<|aw_p 7 (
  .a 3 4 <| .p (qC (qCA)) <| .p (qC (l4)) <| .e 1 4) ?_
 exact qF<|qB [.int .i64 1] kK
theorem au_b6_135  :
    AC Try.prog 84 1 ([.slice none 0 0, .slice (some ⟨0, 0, none⟩) 4 0]) [(0, ⟨[.int .i64 0, .int .i64 0, .int .i64 0, .int .i64 2, .int .i64 2, .int .i64 0, .int .i64 2, .int .i64 2], 29, true, 2⟩)] (.slice (some ⟨1, 0, none⟩) 2 0) [(0, ⟨[.int .i64 0, .int .i64 0, .int .i64 0, .int .i64 2, .int .i64 2, .int .i64 0, .int .i64 2, .int .i64 2], 29, true, 2⟩), (1, ⟨[.int .i64 0, .int .i64 0, .int .i64 2, .int .i64 0, .int .i64 2, .int .i64 2], 29, true, 2⟩)] := by
 refine qK Try.func84 (fun w0 W pin => ?_)
 refine aw_e 3 1 1<|aw_e 7 3 1<|qD 14 15<|aw_e 29 3 1<|qM 0 59<|q6 119<|qE<|aw_e 239 1 1<|qD 478 479<|qR 956<|qH<|qD 958 959<|qM 1 1917<|aw_e 3835 4 1<|qD 7670 7671<|qM 2 15341<|q6 30683<|qE<|qD 61366 61367<|aw_d 122733 (
  .e 22 2) ?_
 refine aw_w [(0, .slice none 0 0), (4, .slice none 0 0), (5, .int .i64 0), (7, .pointer (some ⟨1, 0, none⟩)), (10, .slice (some ⟨0, 0, none⟩) 4 0), (11, .int .i64 4), (12, .int .i64 0), (13, .bool true), (37, .bool false)] [(0, ⟨[.int .i64 0, .int .i64 0, .int .i64 0, .int .i64 2, .int .i64 2, .int .i64 0, .int .i64 2, .int .i64 2], 29, true, 2⟩), (1, ⟨[.int .i64 0, .int .i64 0], 29, true, 2⟩)] ?_
 refine qP 245467<|q5 2<|qG<|qW (
  .a 3 2 <| .p (jQ 3) <| .e 1 4) ?_
 refine aw_e1 2 4<|qE<|aw_e 239 1 4<|qD 478 479<|qR 956<|qH<|qD 958 959<|qM 1 1917<|aw_e 3835 4 4<|qD 7670 7671<|qM 2 15341<|q6 30683<|qE<|qD 61366 61367<|aw_d 122733 (
  .e 22 5) ?_
 refine aw_w [(0, .slice (some ⟨3, 0, none⟩) 1 0), (4, .slice none 0 0), (5, .int .i64 0), (7, .pointer (some ⟨4, 0, none⟩)), (10, .slice (some ⟨0, 0, none⟩) 4 0), (11, .int .i64 4), (12, .int .i64 1), (13, .bool true), (37, .bool false)] [(0, ⟨[.int .i64 0, .int .i64 0, .int .i64 0, .int .i64 2, .int .i64 2, .int .i64 0, .int .i64 2, .int .i64 2], 29, true, 2⟩), (3, ⟨[.int .i64 0, .int .i64 0], 29, true, 2⟩), (4, ⟨[.int .i64 0, .int .i64 2], 29, true, 2⟩)] ?_
 refine qP 245467<|q5 2<|qG<|qW (
  .a 3 5 <| .p (jQ 6) <| .e 1 7) ?_
 refine aw_e1 2 7<|qE<|aw_e 239 1 7<|qD 478 479<|qR 956<|qH<|qD 958 959<|qM 1 1917<|aw_e 3835 4 7<|qD 7670 7671<|qM 2 15341<|q6 30683<|qE<|qD 61366 61367<|aw_d 122733 (
  .a 19 8 <| .p (qC (au_b6_131)) <| .e 2 8) ?_
 refine aw_w [(0, .slice (some ⟨6, 0, none⟩) 2 0), (4, .slice none 0 0), (5, .int .i64 0), (7, .pointer (some ⟨7, 0, none⟩)), (10, .slice (some ⟨0, 0, none⟩) 4 0), (11, .int .i64 4), (12, .int .i64 2), (13, .bool true), (37, .bool true)] [(0, ⟨[.int .i64 0, .int .i64 0, .int .i64 0, .int .i64 2, .int .i64 2, .int .i64 0, .int .i64 2, .int .i64 2], 29, true, 2⟩), (6, ⟨[.int .i64 0, .int .i64 0, .int .i64 0, .int .i64 2], 29, true, 2⟩), (7, ⟨[.int .i64 2, .int .i64 0], 29, true, 2⟩)] ?_
 refine qR 245466<|qH<|qM 3 122735<|qW (
  .a 4 8 <|
  .p (jT (v' := .slice (some ⟨6, 0, none⟩) 1 0) (jN (t := 24) (x := .tmp 38) (lo := none) (hi := some (.tmp 41)) (k := 6) (off := 0) (n := 2) (c := 0) (z := 2) (l := 0) (h := 1) (m := 1) (b := ⟨[.int .i64 0, .int .i64 0, .int .i64 0, .int .i64 2], 29, true, 2⟩) kK kK kK kK kK kK kK kK dD dD dD dD) kK) <|
  .e 1 8) ?_
 refine qE<|qD 61366 61367<|aw_d 122733 (
  .e 22 8) ?_
 refine aw_w [(0, .slice (some ⟨6, 0, none⟩) 1 0), (4, .slice none 0 0), (5, .int .i64 0), (7, .pointer (some ⟨7, 0, none⟩)), (10, .slice (some ⟨0, 0, none⟩) 4 0), (11, .int .i64 4), (12, .int .i64 2), (13, .bool true), (37, .bool false)] [(0, ⟨[.int .i64 0, .int .i64 0, .int .i64 0, .int .i64 2, .int .i64 2, .int .i64 0, .int .i64 2, .int .i64 2], 29, true, 2⟩), (6, ⟨[.int .i64 0, .int .i64 0, .int .i64 0, .int .i64 2], 29, true, 2⟩), (7, ⟨[.int .i64 2, .int .i64 0], 29, true, 2⟩)] ?_
 refine qP 245467<|q5 2<|qG<|qW (
  .a 3 8 <| .p (jQ 9) <| .e 1 10) ?_
 refine aw_e1 2 10<|qE<|aw_e 239 1 10<|qD 478 479<|qR 956<|qH<|qD 958 959<|qM 1 1917<|aw_e 3835 4 10<|qD 7670 7671<|qM 2 15341<|q6 30683<|qE<|qD 61366 61367<|aw_d 122733 (
  .a 19 11 <| .p (qC (au_b6_134)) <| .e 2 11) ?_
 refine aw_w [(0, .slice (some ⟨9, 0, none⟩) 2 0), (4, .slice none 0 0), (5, .int .i64 0), (7, .pointer (some ⟨10, 0, none⟩)), (10, .slice (some ⟨0, 0, none⟩) 4 0), (11, .int .i64 4), (12, .int .i64 3), (13, .bool true), (37, .bool false)] [(0, ⟨[.int .i64 0, .int .i64 0, .int .i64 0, .int .i64 2, .int .i64 2, .int .i64 0, .int .i64 2, .int .i64 2], 29, true, 2⟩), (9, ⟨[.int .i64 0, .int .i64 0, .int .i64 2, .int .i64 0], 29, true, 2⟩), (10, ⟨[.int .i64 2, .int .i64 2], 29, true, 2⟩)] ?_
 refine qP 245467<|q5 2<|qG<|qW (
  .a 3 11 <| .p (jQ 12) <| .e 1 13) ?_
 refine aw_e1 2 13<|qE<|aw_e 239 1 13<|qD 478 479<|qP 957<|q5 0<|qG<|aw_p 31 (
  .a 4 13 <|
  .p (jT (v' := .slice (some ⟨12, 0, none⟩) 2 0) (jN (t := 24) (x := .tmp 48) (lo := none) (hi := some (.tmp 51)) (k := 12) (off := 0) (n := 3) (c := 0) (z := 2) (l := 0) (h := 2) (m := 2) (b := ⟨[.int .i64 0, .int .i64 0, .int .i64 2, .int .i64 0, .int .i64 2, .int .i64 2], 29, true, 2⟩) kK kK kK kK kK kK kK kK dD dD dD dD) kK) <|
  .e 1 13) ?_
 refine aw_r [(1, 12)] [(4, .slice (some ⟨12, 0, none⟩) 2 0)] [(0, ⟨[.int .i64 0, .int .i64 0, .int .i64 0, .int .i64 2, .int .i64 2, .int .i64 0, .int .i64 2, .int .i64 2], 29, true, 2⟩), (12, ⟨[.int .i64 0, .int .i64 0, .int .i64 2, .int .i64 0, .int .i64 2, .int .i64 2], 29, true, 2⟩)] [(4, .slice (some ⟨1, 0, none⟩) 2 0)] [(0, ⟨[.int .i64 0, .int .i64 0, .int .i64 0, .int .i64 2, .int .i64 2, .int .i64 0, .int .i64 2, .int .i64 2], 29, true, 2⟩), (1, ⟨[.int .i64 0, .int .i64 0, .int .i64 2, .int .i64 0, .int .i64 2, .int .i64 2], 29, true, 2⟩)] ?_ ⟨rfl, (.slice _ _ _ _ _ rfl), trivial⟩ ⟨rfl, ⟨rfl, rfl, rfl, (.flats kK)⟩, rfl, ⟨rfl, rfl, rfl, (.flats kK)⟩, trivial⟩
 exact qF<|qB [.slice (some ⟨1, 0, none⟩) 2 0] kK
theorem au_b6_136  :
    AC Try.prog 85 1 ([.slice (some ⟨0, 0, none⟩) 4 0]) [(0, ⟨[.int .i64 0, .int .i64 0, .int .i64 0, .int .i64 2, .int .i64 2, .int .i64 0, .int .i64 2, .int .i64 2], 29, true, 2⟩)] (.tuple #[]) [(0, ⟨[.int .i64 2, .int .i64 2, .int .i64 2, .int .i64 0, .int .i64 0, .int .i64 2, .int .i64 0, .int .i64 0], 29, true, 2⟩)] := by
 refine qK Try.func85 (fun w0 W pin => ?_)
 refine aw_e 3 5 1<|qM 0 7<|q6 15<|qE<|qD 30 31<|aw_e 61 3 1<|qR 122<|qH<|qD 62 63<|qM 1 125<|fX (
  .e 16 1) ?_
 refine aw_e1 6 1<|qE<|qD 30 31<|aw_e 61 3 1<|aw_w [(0, .slice (some ⟨0, 0, none⟩) 4 0), (2, .int .i64 1), (3, .int .i64 2), (9, .bool true)] [(0, ⟨[.int .i64 2, .int .i64 2, .int .i64 0, .int .i64 2, .int .i64 2, .int .i64 0, .int .i64 0, .int .i64 0], 29, true, 2⟩)] ?_
 refine qR 122<|qH<|qD 62 63<|qM 1 125<|fX (
  .e 16 1) ?_
 refine aw_e1 6 1<|qE<|qD 30 31<|aw_e 61 3 1<|aw_w [(0, .slice (some ⟨0, 0, none⟩) 4 0), (2, .int .i64 2), (3, .int .i64 1), (9, .bool false)] [(0, ⟨[.int .i64 2, .int .i64 2, .int .i64 2, .int .i64 0, .int .i64 0, .int .i64 2, .int .i64 0, .int .i64 0], 29, true, 2⟩)] ?_
 exact qP 123<|q5 0<|qG<|v8 [] kK
theorem au_b6_137  :
    AC Try.prog 117 0 ([.agg #[.int .i64 2, .int .i64 2], .agg #[.int .i64 2, .int .i64 0]]) [] (.agg #[.int .i64 0, .int .i64 (-2)]) [] := by
 refine qK Try.func117 (fun w0 W pin => ?_)
 refine aw_e 3 3 1<|aw_d 7 (
  .a 1 4 <| .p (qC (yA)) <| .a 1 4 <| .p (qC (xP)) <| .e 2 4) ?_
 exact aw_e 15 12 4<|qF<|qB [.agg #[.int .i64 0, .int .i64 (-2)]] kK
theorem au_b6_138  :
    AC Try.prog 80 0 ([.agg #[.int .i64 2, .int .i64 2], .agg #[.int .i64 2, .int .i64 0], .agg #[.int .i64 0, .int .i64 2]]) [] (.int .i64 (-4)) [] := by
 refine qK Try.func80 (fun w0 W pin => ?_)
 refine aw_e 3 4 1<|aw_d 7 (
  .a 2 4 <| .p (qC (au_b6_137)) <| .a 2 4 <| .p (qC (tN)) <| .e 4 4) ?_
 refine aw_e 15 12 6<|aw_w [(6, .int .i64 (-4))] [] ?_
 exact qF<|qB [.int .i64 (-4)] kK
theorem au_b6_139  :
    AC Try.prog 35 0 ([.agg #[.int .i64 2, .int .i64 2], .agg #[.int .i64 2, .int .i64 0], .agg #[.int .i64 0, .int .i64 2]]) [] (.int .i64 (-1)) [] := by
 refine qK Try.func35 (fun w0 W pin => ?_)
 refine aw_e 3 4 1<|aw_p 7 (
  .a 3 4 <| .p (qC (au_b6_138)) <| .p (qC (l5)) <| .e 1 4) ?_
 exact qF<|qB [.int .i64 (-1)] kK
theorem au_b6_140  :
    AC Try.prog 117 0 ([.agg #[.int .i64 2, .int .i64 2], .agg #[.int .i64 0, .int .i64 0]]) [] (.agg #[.int .i64 (-2), .int .i64 (-2)]) [] := by
 refine qK Try.func117 (fun w0 W pin => ?_)
 refine aw_e 3 3 1<|aw_d 7 (
  .a 1 4 <| .p (qC (yA)) <| .a 1 4 <| .p (qC (vB)) <| .e 2 4) ?_
 exact aw_e 15 12 4<|qF<|qB [.agg #[.int .i64 (-2), .int .i64 (-2)]] kK
theorem au_b6_141  :
    AC Try.prog 80 0 ([.agg #[.int .i64 2, .int .i64 2], .agg #[.int .i64 0, .int .i64 2], .agg #[.int .i64 0, .int .i64 0]]) [] (.int .i64 4) [] := by
 refine qK Try.func80 (fun w0 W pin => ?_)
 refine aw_e 3 4 1<|aw_d 7 (
  .a 2 4 <| .p (qC (tN)) <| .a 2 4 <| .p (qC (au_b6_140)) <| .e 4 4) ?_
 refine aw_e 15 12 6<|aw_w [(6, .int .i64 4)] [] ?_
 exact qF<|qB [.int .i64 4] kK
theorem au_b6_142  :
    AC Try.prog 35 0 ([.agg #[.int .i64 2, .int .i64 2], .agg #[.int .i64 0, .int .i64 2], .agg #[.int .i64 0, .int .i64 0]]) [] (.int .i64 1) [] := by
 refine qK Try.func35 (fun w0 W pin => ?_)
 refine aw_e 3 4 1<|aw_p 7 (
  .a 3 4 <| .p (qC (au_b6_141)) <| .p (qC (l4)) <| .e 1 4) ?_
 exact qF<|qB [.int .i64 1] kK
theorem au_b6_143  :
    AC Try.prog 84 2 ([.slice (some ⟨0, 0, none⟩) 2 0, .slice (some ⟨1, 0, none⟩) 4 0]) [(0, ⟨[.int .i64 0, .int .i64 0, .int .i64 2, .int .i64 0, .int .i64 2, .int .i64 2], 29, true, 2⟩), (1, ⟨[.int .i64 2, .int .i64 2, .int .i64 2, .int .i64 0, .int .i64 0, .int .i64 2, .int .i64 0, .int .i64 0], 29, true, 2⟩)] (.slice (some ⟨2, 0, none⟩) 4 0) [(1, ⟨[.int .i64 2, .int .i64 2, .int .i64 2, .int .i64 0, .int .i64 0, .int .i64 2, .int .i64 0, .int .i64 0], 29, true, 2⟩), (2, ⟨[.int .i64 0, .int .i64 0, .int .i64 2, .int .i64 0, .int .i64 2, .int .i64 2, .int .i64 0, .int .i64 2, .int .i64 0, .int .i64 0], 29, true, 2⟩)] := by
 refine qK Try.func84 (fun w0 W pin => ?_)
 refine aw_e 3 1 2<|aw_e 7 3 2<|qD 14 15<|aw_e 29 3 2<|qM 0 59<|q6 119<|qE<|aw_e 239 1 2<|qD 478 479<|qR 956<|qH<|qD 958 959<|qM 1 1917<|aw_e 3835 4 2<|qD 7670 7671<|qM 2 15341<|q6 30683<|qE<|qD 61366 61367<|aw_d 122733 (
  .e 22 3) ?_
 refine aw_w [(0, .slice (some ⟨0, 0, none⟩) 2 0), (4, .slice none 0 0), (5, .int .i64 2), (7, .pointer (some ⟨2, 0, none⟩)), (10, .slice (some ⟨1, 0, none⟩) 4 0), (11, .int .i64 4), (12, .int .i64 0), (13, .bool true), (37, .bool false)] [(0, ⟨[.int .i64 0, .int .i64 0, .int .i64 2, .int .i64 0, .int .i64 2, .int .i64 2], 29, true, 2⟩), (1, ⟨[.int .i64 2, .int .i64 2, .int .i64 2, .int .i64 0, .int .i64 0, .int .i64 2, .int .i64 0, .int .i64 0], 29, true, 2⟩), (2, ⟨[.int .i64 2, .int .i64 2], 29, true, 2⟩)] ?_
 refine qP 245467<|q5 2<|qG<|qW (
  .a 3 3 <| .p (jQ 4) <| .e 1 5) ?_
 refine aw_e1 2 5<|qE<|aw_e 239 1 5<|qD 478 479<|qR 956<|qH<|qD 958 959<|qM 1 1917<|aw_e 3835 4 5<|qD 7670 7671<|qM 2 15341<|q6 30683<|qE<|qD 61366 61367<|aw_d 122733 (
  .e 22 6) ?_
 refine aw_w [(0, .slice (some ⟨4, 0, none⟩) 3 0), (4, .slice none 0 0), (5, .int .i64 2), (7, .pointer (some ⟨5, 0, none⟩)), (10, .slice (some ⟨1, 0, none⟩) 4 0), (11, .int .i64 4), (12, .int .i64 1), (13, .bool true), (37, .bool false)] [(1, ⟨[.int .i64 2, .int .i64 2, .int .i64 2, .int .i64 0, .int .i64 0, .int .i64 2, .int .i64 0, .int .i64 0], 29, true, 2⟩), (4, ⟨[.int .i64 0, .int .i64 0, .int .i64 2, .int .i64 0, .int .i64 2, .int .i64 2], 29, true, 2⟩), (5, ⟨[.int .i64 2, .int .i64 0], 29, true, 2⟩)] ?_
 refine qP 245467<|q5 2<|qG<|qW (
  .a 3 6 <| .p (jQ 7) <| .e 1 8) ?_
 refine aw_e1 2 8<|qE<|aw_e 239 1 8<|qD 478 479<|qR 956<|qH<|qD 958 959<|qM 1 1917<|aw_e 3835 4 8<|qD 7670 7671<|qM 2 15341<|q6 30683<|qE<|qD 61366 61367<|aw_d 122733 (
  .a 19 9 <| .p (qC (au_b6_139)) <| .e 2 9) ?_
 refine aw_w [(0, .slice (some ⟨7, 0, none⟩) 4 0), (4, .slice none 0 0), (5, .int .i64 2), (7, .pointer (some ⟨8, 0, none⟩)), (10, .slice (some ⟨1, 0, none⟩) 4 0), (11, .int .i64 4), (12, .int .i64 2), (13, .bool true), (37, .bool true)] [(1, ⟨[.int .i64 2, .int .i64 2, .int .i64 2, .int .i64 0, .int .i64 0, .int .i64 2, .int .i64 0, .int .i64 0], 29, true, 2⟩), (7, ⟨[.int .i64 0, .int .i64 0, .int .i64 2, .int .i64 0, .int .i64 2, .int .i64 2, .int .i64 2, .int .i64 0], 29, true, 2⟩), (8, ⟨[.int .i64 0, .int .i64 2], 29, true, 2⟩)] ?_
 refine qR 245466<|qH<|qM 3 122735<|qW (
  .a 4 9 <|
  .p (jT (v' := .slice (some ⟨7, 0, none⟩) 3 0) (jN (t := 24) (x := .tmp 38) (lo := none) (hi := some (.tmp 41)) (k := 7) (off := 0) (n := 4) (c := 0) (z := 2) (l := 0) (h := 3) (m := 3) (b := ⟨[.int .i64 0, .int .i64 0, .int .i64 2, .int .i64 0, .int .i64 2, .int .i64 2, .int .i64 2, .int .i64 0], 29, true, 2⟩) kK kK kK kK kK kK kK kK dD dD dD dD) kK) <|
  .e 1 9) ?_
 refine qE<|qD 61366 61367<|aw_d 122733 (
  .e 22 9) ?_
 refine aw_w [(0, .slice (some ⟨7, 0, none⟩) 3 0), (4, .slice none 0 0), (5, .int .i64 2), (7, .pointer (some ⟨8, 0, none⟩)), (10, .slice (some ⟨1, 0, none⟩) 4 0), (11, .int .i64 4), (12, .int .i64 2), (13, .bool true), (37, .bool false)] [(1, ⟨[.int .i64 2, .int .i64 2, .int .i64 2, .int .i64 0, .int .i64 0, .int .i64 2, .int .i64 0, .int .i64 0], 29, true, 2⟩), (7, ⟨[.int .i64 0, .int .i64 0, .int .i64 2, .int .i64 0, .int .i64 2, .int .i64 2, .int .i64 2, .int .i64 0], 29, true, 2⟩), (8, ⟨[.int .i64 0, .int .i64 2], 29, true, 2⟩)] ?_
 refine qP 245467<|q5 2<|qG<|qW (
  .a 3 9 <| .p (jQ 10) <| .e 1 11) ?_
 refine aw_e1 2 11<|qE<|aw_e 239 1 11<|qD 478 479<|qR 956<|qH<|qD 958 959<|qM 1 1917<|aw_e 3835 4 11<|qD 7670 7671<|qM 2 15341<|q6 30683<|qE<|qD 61366 61367<|aw_d 122733 (
  .a 19 12 <| .p (qC (au_b6_142)) <| .e 2 12) ?_
 refine aw_w [(0, .slice (some ⟨10, 0, none⟩) 4 0), (4, .slice none 0 0), (5, .int .i64 2), (7, .pointer (some ⟨11, 0, none⟩)), (10, .slice (some ⟨1, 0, none⟩) 4 0), (11, .int .i64 4), (12, .int .i64 3), (13, .bool true), (37, .bool false)] [(1, ⟨[.int .i64 2, .int .i64 2, .int .i64 2, .int .i64 0, .int .i64 0, .int .i64 2, .int .i64 0, .int .i64 0], 29, true, 2⟩), (10, ⟨[.int .i64 0, .int .i64 0, .int .i64 2, .int .i64 0, .int .i64 2, .int .i64 2, .int .i64 0, .int .i64 2], 29, true, 2⟩), (11, ⟨[.int .i64 0, .int .i64 0], 29, true, 2⟩)] ?_
 refine qP 245467<|q5 2<|qG<|qW (
  .a 3 12 <| .p (jQ 13) <| .e 1 14) ?_
 refine aw_e1 2 14<|qE<|aw_e 239 1 14<|qD 478 479<|qP 957<|q5 0<|qG<|aw_p 31 (
  .a 4 14 <|
  .p (jT (v' := .slice (some ⟨13, 0, none⟩) 4 0) (jN (t := 24) (x := .tmp 48) (lo := none) (hi := some (.tmp 51)) (k := 13) (off := 0) (n := 5) (c := 0) (z := 2) (l := 0) (h := 4) (m := 4) (b := ⟨[.int .i64 0, .int .i64 0, .int .i64 2, .int .i64 0, .int .i64 2, .int .i64 2, .int .i64 0, .int .i64 2, .int .i64 0, .int .i64 0], 29, true, 2⟩) kK kK kK kK kK kK kK kK dD dD dD dD) kK) <|
  .e 1 14) ?_
 refine aw_r [(2, 13)] [(4, .slice (some ⟨13, 0, none⟩) 4 0)] [(1, ⟨[.int .i64 2, .int .i64 2, .int .i64 2, .int .i64 0, .int .i64 0, .int .i64 2, .int .i64 0, .int .i64 0], 29, true, 2⟩), (13, ⟨[.int .i64 0, .int .i64 0, .int .i64 2, .int .i64 0, .int .i64 2, .int .i64 2, .int .i64 0, .int .i64 2, .int .i64 0, .int .i64 0], 29, true, 2⟩)] [(4, .slice (some ⟨2, 0, none⟩) 4 0)] [(1, ⟨[.int .i64 2, .int .i64 2, .int .i64 2, .int .i64 0, .int .i64 0, .int .i64 2, .int .i64 0, .int .i64 0], 29, true, 2⟩), (2, ⟨[.int .i64 0, .int .i64 0, .int .i64 2, .int .i64 0, .int .i64 2, .int .i64 2, .int .i64 0, .int .i64 2, .int .i64 0, .int .i64 0], 29, true, 2⟩)] ?_ ⟨rfl, (.slice _ _ _ _ _ rfl), trivial⟩ ⟨rfl, ⟨rfl, rfl, rfl, (.flats kK)⟩, rfl, ⟨rfl, rfl, rfl, (.flats kK)⟩, trivial⟩
 exact qF<|qB [.slice (some ⟨2, 0, none⟩) 4 0] kK
theorem au_b6_144  :
    AC Try.prog 36 1 ([.slice (some ⟨0, 0, none⟩) 4 0]) [(0, ⟨[.int .i64 0, .int .i64 0, .int .i64 2, .int .i64 0, .int .i64 2, .int .i64 2, .int .i64 0, .int .i64 2], 29, true, 2⟩)] (.slice (some ⟨1, 0, none⟩) 4 0) [(0, ⟨[.int .i64 0, .int .i64 0, .int .i64 2, .int .i64 0, .int .i64 2, .int .i64 2, .int .i64 0, .int .i64 2], 29, true, 2⟩), (1, ⟨[.int .i64 0, .int .i64 0, .int .i64 2, .int .i64 0, .int .i64 2, .int .i64 2, .int .i64 0, .int .i64 2, .int .i64 0, .int .i64 0], 29, true, 2⟩)] := by
 refine qK Try.func36 (fun w0 W pin => ?_)
 refine aw_e 3 1 1<|aw_p 7 (
  .a 2 1 <| .p (vS (kl := .i64) (kc := .i64) (n' := 0) (c' := 4) 1 29 2 16 0 4 (.agg #[.int .i64 0, .int .i64 0]) [] kK kK kK kK dD dD dD dD dD) <| .e 1 2) ?_
 refine qD 14 15<|aw_e 29 3 2<|qM 0 59<|q6 119<|qE<|aw_e 239 1 2<|qD 478 479<|qR 956<|qH<|qD 958 959<|qM 1 1917<|aw_e 3835 4 2<|qW (
  .a 2 3 <| .p (qC (vB)) <| .a 1 3 <| .p (jQ 4) <| .e 1 5) ?_
 refine aw_e1 2 5<|qE<|aw_e 239 1 5<|qD 478 479<|qR 956<|qH<|qD 958 959<|qM 1 1917<|aw_e 3835 4 5<|aw_w [(2, .slice none 0 0), (3, .slice (some ⟨4, 0, none⟩) 1 0), (5, .pointer (some ⟨5, 0, none⟩)), (10, .slice (some ⟨0, 0, none⟩) 4 0), (11, .int .i64 4), (12, .int .i64 1), (13, .bool true)] [(0, ⟨[.int .i64 0, .int .i64 0, .int .i64 2, .int .i64 0, .int .i64 2, .int .i64 2, .int .i64 0, .int .i64 2], 29, true, 2⟩), (4, ⟨[.int .i64 0, .int .i64 0], 29, true, 2⟩), (5, ⟨[.int .i64 2, .int .i64 0], 29, true, 2⟩)] ?_
 refine qW (
  .a 2 6 <| .p (qC (xP)) <| .a 1 6 <| .p (jQ 7) <| .e 1 8) ?_
 refine aw_e1 2 8<|qE<|aw_e 239 1 8<|qD 478 479<|qR 956<|qH<|qD 958 959<|qM 1 1917<|aw_e 3835 4 8<|qW (
  .a 2 9 <| .p (qC (yA)) <| .a 1 9 <| .p (jQ 10) <| .e 1 11) ?_
 refine aw_e1 2 11<|qE<|aw_e 239 1 11<|qD 478 479<|qR 956<|qH<|qD 958 959<|qM 1 1917<|aw_e 3835 4 11<|aw_w [(2, .slice none 0 0), (3, .slice (some ⟨10, 0, none⟩) 3 0), (5, .pointer (some ⟨11, 0, none⟩)), (10, .slice (some ⟨0, 0, none⟩) 4 0), (11, .int .i64 4), (12, .int .i64 3), (13, .bool true)] [(0, ⟨[.int .i64 0, .int .i64 0, .int .i64 2, .int .i64 0, .int .i64 2, .int .i64 2, .int .i64 0, .int .i64 2], 29, true, 2⟩), (10, ⟨[.int .i64 0, .int .i64 0, .int .i64 2, .int .i64 0, .int .i64 2, .int .i64 2], 29, true, 2⟩), (11, ⟨[.int .i64 0, .int .i64 2], 29, true, 2⟩)] ?_
 refine qW (
  .a 2 12 <| .p (qC (xN)) <| .a 1 12 <| .p (jQ 13) <| .e 1 14) ?_
 refine aw_e1 2 14<|qE<|aw_e 239 1 14<|qD 478 479<|qP 957<|q5 0<|qG<|aw_p 31 (
  .a 1 14 <| .p (qQ [13] (au_b6_126)) <| .nil _ _) ?_
 refine aw_p 63 (
  .a 1 14 <| .p (qQ [13] (au_b6_127)) <| .e 1 14) ?_
 refine qD 126 127<|aw_e 253 3 14<|qP 507<|qH<|aw_p 255 (
  .a 1 14 <| .p (qQ [13, 14] (au_b6_135)) <| .e 1 15) ?_
 refine aw_p 511 (
  .a 1 15 <| .p (qQ [13] (au_b6_136)) <| .nil _ _) ?_
 refine aw_p 1023 (
  .a 2 15 <| .p (qQ [14, 13, 15] (au_b6_143)) <| .e 1 16) ?_
 refine aw_w [(2, .slice (some ⟨15, 0, none⟩) 4 0)] [(0, ⟨[.int .i64 0, .int .i64 0, .int .i64 2, .int .i64 0, .int .i64 2, .int .i64 2, .int .i64 0, .int .i64 2], 29, true, 2⟩), (15, ⟨[.int .i64 0, .int .i64 0, .int .i64 2, .int .i64 0, .int .i64 2, .int .i64 2, .int .i64 0, .int .i64 2, .int .i64 0, .int .i64 0], 29, true, 2⟩)] ?_
 refine aw_r [(1, 15)] [(2, .slice (some ⟨15, 0, none⟩) 4 0)] [(0, ⟨[.int .i64 0, .int .i64 0, .int .i64 2, .int .i64 0, .int .i64 2, .int .i64 2, .int .i64 0, .int .i64 2], 29, true, 2⟩), (15, ⟨[.int .i64 0, .int .i64 0, .int .i64 2, .int .i64 0, .int .i64 2, .int .i64 2, .int .i64 0, .int .i64 2, .int .i64 0, .int .i64 0], 29, true, 2⟩)] [(2, .slice (some ⟨1, 0, none⟩) 4 0)] [(0, ⟨[.int .i64 0, .int .i64 0, .int .i64 2, .int .i64 0, .int .i64 2, .int .i64 2, .int .i64 0, .int .i64 2], 29, true, 2⟩), (1, ⟨[.int .i64 0, .int .i64 0, .int .i64 2, .int .i64 0, .int .i64 2, .int .i64 2, .int .i64 0, .int .i64 2, .int .i64 0, .int .i64 0], 29, true, 2⟩)] ?_ ⟨rfl, (.slice _ _ _ _ _ rfl), trivial⟩ ⟨rfl, ⟨rfl, rfl, rfl, (.flats kK)⟩, rfl, ⟨rfl, rfl, rfl, (.flats kK)⟩, trivial⟩
 exact qF<|qB [.slice (some ⟨1, 0, none⟩) 4 0] kK
theorem au_b6_145  :
    AC Try.prog 89 0 ([.int .i64 5, .int .i64 1]) [] (.agg #[.int .i64 5, .int .i64 1]) [] := by
 refine qK Try.func89 (fun w0 W pin => ?_)
 exact aw_e 3 1 1<|aw_e 7 4 2<|qF<|qB [.agg #[.int .i64 5, .int .i64 1]] kK
theorem lZ  :
    AC Try.prog 89 0 ([.int .i64 10, .int .i64 0]) [] (.agg #[.int .i64 10, .int .i64 0]) [] := by
 refine qK Try.func89 (fun w0 W pin => ?_)
 exact aw_e 3 1 1<|aw_e 7 4 2<|qF<|qB [.agg #[.int .i64 10, .int .i64 0]] kK
theorem au_b6_147  :
    AC Try.prog 101 0 ([.int .i64 5, .int .i64 1048576]) [] (.int .i64 5) [] := by
 refine qK Try.func101 (fun w0 W pin => ?_)
 exact aw_e 3 1 1<|aw_e 7 7 1<|qF<|qB [.int .i64 5] kK
theorem lY  :
    AC Try.prog 56 0 ([.agg #[.int .i64 5, .int .i64 1]]) [] (.agg #[.int .i64 5, .int .i64 1]) [] := by
 refine qK Try.func56 (fun w0 W pin => ?_)
 refine aw_e 3 2 1<|aw_d 7 (
  .a 2 3 <| .p (qC (au_b6_147)) <| .a 2 3 <| .p (qC (bR)) <| .e 2 3) ?_
 exact qF<|qB [.agg #[.int .i64 5, .int .i64 1]] kK
theorem au_b6_149  :
    AC Try.prog 101 0 ([.int .i64 10, .int .i64 1048576]) [] (.int .i64 10) [] := by
 refine qK Try.func101 (fun w0 W pin => ?_)
 exact aw_e 3 1 1<|aw_e 7 7 1<|qF<|qB [.int .i64 10] kK
theorem lX  :
    AC Try.prog 56 0 ([.agg #[.int .i64 10, .int .i64 0]]) [] (.agg #[.int .i64 10, .int .i64 0]) [] := by
 refine qK Try.func56 (fun w0 W pin => ?_)
 refine aw_e 3 2 1<|aw_d 7 (
  .a 2 3 <| .p (qC (au_b6_149)) <| .a 2 3 <| .p (qC (wY)) <| .e 2 3) ?_
 exact qF<|qB [.agg #[.int .i64 10, .int .i64 0]] kK
theorem bQ  :
    AC Try.prog 117 0 ([.agg #[.int .i64 0, .int .i64 0], .agg #[.int .i64 10, .int .i64 0]]) [] (.agg #[.int .i64 10, .int .i64 0]) [] := by
 refine qK Try.func117 (fun w0 W pin => ?_)
 refine aw_e 3 3 1<|aw_d 7 (
  .a 1 4 <| .p (qC (vB)) <| .a 1 4 <| .p (qC (lX)) <| .e 2 4) ?_
 exact aw_e 15 12 4<|qF<|qB [.agg #[.int .i64 10, .int .i64 0]] kK
theorem au_b6_152  :
    AC Try.prog 115 0 ([.agg #[.int .i64 0, .int .i64 0], .agg #[.int .i64 10, .int .i64 0], .agg #[.int .i64 10, .int .i64 0]]) [] (.int .i64 100) [] := by
 refine qK Try.func115 (fun w0 W pin => ?_)
 refine aw_e 3 4 1<|aw_d 7 (
  .a 2 4 <| .p (qC (bQ)) <| .a 2 4 <| .p (qC (bQ)) <| .e 4 4) ?_
 refine aw_e 15 12 6<|aw_w [(6, .int .i64 100)] [] ?_
 exact qF<|qB [.int .i64 100] kK
theorem au_b6_153  :
    AC Try.prog 77 0 ([.agg #[.int .i64 0, .int .i64 0], .agg #[.int .i64 10, .int .i64 0]]) [] (.int .i64 100) [] := by
 refine qK Try.func77 (fun w0 W pin => ?_)
 refine aw_e 3 3 1<|aw_p 7 (
  .a 3 3 <| .p (qC (au_b6_152)) <| .e 1 3) ?_
 exact qF<|qB [.int .i64 100] kK
theorem lW  :
    AC Try.prog 117 0 ([.agg #[.int .i64 0, .int .i64 0], .agg #[.int .i64 5, .int .i64 1]]) [] (.agg #[.int .i64 5, .int .i64 1]) [] := by
 refine qK Try.func117 (fun w0 W pin => ?_)
 refine aw_e 3 3 1<|aw_d 7 (
  .a 1 4 <| .p (qC (vB)) <| .a 1 4 <| .p (qC (lY)) <| .e 2 4) ?_
 exact aw_e 15 12 4<|qF<|qB [.agg #[.int .i64 5, .int .i64 1]] kK
theorem au_b6_155  :
    AC Try.prog 115 0 ([.agg #[.int .i64 0, .int .i64 0], .agg #[.int .i64 10, .int .i64 0], .agg #[.int .i64 5, .int .i64 1]]) [] (.int .i64 50) [] := by
 refine qK Try.func115 (fun w0 W pin => ?_)
 refine aw_e 3 4 1<|aw_d 7 (
  .a 2 4 <| .p (qC (bQ)) <| .a 2 4 <| .p (qC (lW)) <| .e 4 4) ?_
 refine aw_e 15 12 6<|aw_w [(6, .int .i64 50)] [] ?_
 exact qF<|qB [.int .i64 50] kK
theorem au_b6_156  :
    AC Try.prog 80 0 ([.agg #[.int .i64 0, .int .i64 0], .agg #[.int .i64 10, .int .i64 0], .agg #[.int .i64 5, .int .i64 1]]) [] (.int .i64 10) [] := by
 refine qK Try.func80 (fun w0 W pin => ?_)
 refine aw_e 3 4 1<|aw_d 7 (
  .a 2 4 <| .p (qC (bQ)) <| .a 2 4 <| .p (qC (lW)) <| .e 4 4) ?_
 refine aw_e 15 12 6<|aw_w [(6, .int .i64 10)] [] ?_
 exact qF<|qB [.int .i64 10] kK
theorem au_b6_157  :
    AC Try.prog 120 0 ([.int .u64 10, .int .u64 10]) [] (.tuple #[.int .u64 0, .int .u64 100]) [] := by
 refine qK Try.func120 (fun w0 W pin => ?_)
 refine aw_e 3 2 1<|aw_e 7 3 1<|aw_e 15 3 1<|aw_e 31 3 1<|aw_e 63 3 1<|aw_e 127 4 1<|aw_e 255 7 1<|aw_w [(0, .int .u64 10), (1, .int .u64 10), (4, .int .u64 0), (5, .int .u64 0), (6, .int .u64 10), (7, .int .u64 0), (9, .int .u64 0), (11, .int .u64 0)] [] ?_
 refine aw_e 511 3 1<|aw_e 1023 3 1<|aw_e 2047 6 1<|aw_e 4095 9 1<|aw_e 8191 4 1<|aw_w [(4, .int .u64 0), (5, .int .u64 100)] [] ?_
 exact qF<|qB [.int .u64 0, .int .u64 100] kK
theorem au_b6_158  :
    AC Try.prog 92 0 ([.int .i64 10, .int .i64 10]) [] (.agg #[.int .i64 0, .int .u64 100]) [] := by
 refine qK Try.func92 (fun w0 W pin => ?_)
 refine aw_e 3 1 1<|aw_p 7 (
  .a 4 2 <| .p (qC (au_b6_157)) <| .e 5 2) ?_
 exact qD 14 15<|aw_e 29 2 2<|qP 59<|qH<|qD 30 31<|aw_e 61 2 2<|qP 123<|qH<|aw_e 63 5 2<|qF<|qB [.agg #[.int .i64 0, .int .u64 100]] kK
theorem au_b6_159  :
    AC Try.prog 94 0 ([.agg #[.int .i64 5, .int .i64 1], .agg #[.int .i64 0, .int .i64 0], .agg #[.int .i64 10, .int .i64 0]]) [] (.tuple #[.agg #[.int .i64 0, .int .u64 100], .int .i64 100]) [] := by
 refine qK Try.func94 (fun w0 W pin => ?_)
 refine aw_e 3 5 1<|aw_d 7 (
  .a 2 5 <| .p (qC (au_b6_153)) <| .a 3 5 <| .p (qC (au_b6_155)) <| .e 2 5) ?_
 refine qD 14 15<|qM 0 29<|aw_e 59 3 5<|qP 119<|aw_e 239 4 5<|qP 479<|qH<|aw_p 31 (
  .a 3 5 <| .p (qC (au_b6_156)) <| .e 1 5) ?_
 refine aw_w [(6, .pointer (some ⟨4, 0, none⟩)), (7, .int .i64 0), (8, .int .i64 100), (10, .int .i64 10)] [(4, ⟨[.int .i64 0, .int .u64 0], 90, true, 2⟩)] ?_
 refine aw_p 63 (
  .a 2 5 <| .p (qC (au_b6_158)) <| .e 3 5) ?_
 exact qF<|qB [.agg #[.int .i64 0, .int .u64 100], .int .i64 100] kK
theorem au_b6_160  :
    AC Try.prog 120 0 ([.int .u64 1, .int .u64 100]) [] (.tuple #[.int .u64 0, .int .u64 100]) [] := by
 refine qK Try.func120 (fun w0 W pin => ?_)
 refine aw_e 3 2 1<|aw_e 7 3 1<|aw_e 15 3 1<|aw_e 31 3 1<|aw_e 63 3 1<|aw_e 127 4 1<|aw_e 255 7 1<|aw_w [(0, .int .u64 1), (1, .int .u64 100), (4, .int .u64 0), (5, .int .u64 0), (6, .int .u64 1), (7, .int .u64 0), (9, .int .u64 0), (11, .int .u64 0)] [] ?_
 refine aw_e 511 3 1<|aw_e 1023 3 1<|aw_e 2047 6 1<|aw_e 4095 9 1<|aw_e 8191 4 1<|aw_w [(4, .int .u64 0), (5, .int .u64 100)] [] ?_
 exact qF<|qB [.int .u64 0, .int .u64 100] kK
theorem au_b6_161  :
    AC Try.prog 92 0 ([.int .i64 1, .int .i64 100]) [] (.agg #[.int .i64 0, .int .u64 100]) [] := by
 refine qK Try.func92 (fun w0 W pin => ?_)
 refine aw_e 3 1 1<|aw_p 7 (
  .a 4 2 <| .p (qC (au_b6_160)) <| .e 5 2) ?_
 exact qD 14 15<|aw_e 29 2 2<|qP 59<|qH<|qD 30 31<|aw_e 61 2 2<|qP 123<|qH<|aw_e 63 5 2<|qF<|qB [.agg #[.int .i64 0, .int .u64 100]] kK
theorem au_b6_162  :
    AC Try.prog 95 0 ([.agg #[.int .i64 0, .int .u64 100], .agg #[.int .i64 0, .int .u64 100]]) [] (.int .i64 0) [] := by
 refine qK Try.func95 (fun w0 W pin => ?_)
 refine aw_e 3 3 1<|qD 6 7<|qM 0 13<|aw_p 27 (
  .a 2 3 <| .p (qV true ((show ((0 == 0) && ((100 == 100) && true)) = true from by decide))) <| .e 1 3) ?_
 exact qR 54<|aw_e 109 1 3<|qF<|qB [.int .i64 0] kK
theorem au_b6_163  :
    AC Try.prog 51 0 ([.agg #[.int .i64 5, .int .i64 1], .agg #[.int .i64 0, .int .i64 0], .agg #[.int .i64 10, .int .i64 0], .int .i64 1]) [] (.bool true) [] := by
 refine qK Try.func51 (fun w0 W pin => ?_)
 refine aw_e 3 4 1<|aw_e 7 3 4<|qD 14 15<|aw_e 29 2 4<|qP 59<|qH<|aw_p 31 (
  .a 3 4 <| .p (qC (au_b6_159)) <| .e 6 4) ?_
 refine aw_d 63 (
  .a 5 5 <| .p (qC (au_b6_161)) <| .p (qC (au_b6_162)) <| .e 2 5) ?_
 refine aw_w [(8, .bool true)] [] ?_
 exact qF<|qB [.bool true] kK
theorem au_b6_164  :
    AC Try.prog 57 2 ([.slice (some ⟨0, 0, none⟩) 3 0, .slice (some ⟨1, 0, none⟩) 3 0, .int .i64 0, .int .i64 2, .int .i64 1]) [(0, ⟨[.int .i64 0, .int .i64 0, .int .i64 5, .int .i64 1, .int .i64 10, .int .i64 0], 29, true, 2⟩), (1, ⟨[.bool true, .bool false, .bool true], 4, true, 1⟩)] (.tuple #[]) [(0, ⟨[.int .i64 0, .int .i64 0, .int .i64 5, .int .i64 1, .int .i64 10, .int .i64 0], 29, true, 2⟩), (1, ⟨[.bool true, .bool false, .bool true], 4, true, 1⟩)] := by
 refine qK Try.func57 (fun w0 W pin => ?_)
 refine aw_e 3 1 2<|qD 6 7<|aw_e 13 3 2<|qM 0 27<|q6 55<|qE<|qD 110 111<|aw_e 221 3 2<|qR 442<|qH<|qD 222 223<|qM 1 445<|aw_d 891 (
  .a 14 2 <| .p (qC (au_b6_163)) <| .e 24 2) ?_
 refine aw_w [(0, .slice (some ⟨0, 0, none⟩) 3 0), (1, .slice (some ⟨1, 0, none⟩) 3 0), (2, .int .i64 0), (3, .int .i64 2), (4, .int .i64 1), (10, .int .i64 (-1)), (11, .int .i64 1), (16, .bool true), (57, .bool false)] [(0, ⟨[.int .i64 0, .int .i64 0, .int .i64 5, .int .i64 1, .int .i64 10, .int .i64 0], 29, true, 2⟩), (1, ⟨[.bool true, .bool false, .bool true], 4, true, 1⟩)] ?_
 exact qP 1783<|qH<|aw_e1 3 2<|qE<|qD 110 111<|aw_e 221 3 2<|qP 443<|q5 0<|qG<|qD 14 15<|aw_e 29 2 2<|qR 58<|qF<|qB [] kK
theorem au_b6_165  :
    AC Try.prog 16 1 ([.slice (some ⟨0, 0, none⟩) 3 0, .int .i64 1]) [(0, ⟨[.int .i64 0, .int .i64 0, .int .i64 5, .int .i64 1, .int .i64 10, .int .i64 0], 29, true, 2⟩)] (.slice (some ⟨1, 0, none⟩) 2 0) [(0, ⟨[.int .i64 0, .int .i64 0, .int .i64 5, .int .i64 1, .int .i64 10, .int .i64 0], 29, true, 2⟩), (1, ⟨[.int .i64 0, .int .i64 0, .int .i64 10, .int .i64 0], 29, true, 2⟩)] := by
 refine qK Try.func16 (fun w0 W pin => ?_)
 refine aw_e 3 1 1<|aw_p 7 (
  .a 2 1 <| .p (vS (kl := .i64) (kc := .i64) (n' := 0) (c' := 3) 1 29 2 16 0 3 (.agg #[.int .i64 0, .int .i64 0]) [] kK kK kK kK dD dD dD dD dD) <| .e 1 2) ?_
 refine qD 14 15<|aw_e 29 3 2<|qM 0 59<|q6 119<|qE<|aw_e 239 1 2<|qD 478 479<|qR 956<|qH<|qD 958 959<|qM 1 1917<|aw_e 3835 4 2<|qW (
  .a 2 3 <| .p (qC (vB)) <| .a 1 3 <| .p (jQ 4) <| .e 1 5) ?_
 refine aw_e1 2 5<|qE<|aw_e 239 1 5<|qD 478 479<|qR 956<|qH<|qD 958 959<|qM 1 1917<|aw_e 3835 4 5<|aw_w [(1, .int .i64 1), (4, .slice none 0 0), (5, .slice (some ⟨4, 0, none⟩) 1 0), (7, .pointer (some ⟨5, 0, none⟩)), (15, .slice (some ⟨0, 0, none⟩) 3 0), (16, .int .i64 3), (17, .int .i64 1), (18, .bool true)] [(0, ⟨[.int .i64 0, .int .i64 0, .int .i64 5, .int .i64 1, .int .i64 10, .int .i64 0], 29, true, 2⟩), (4, ⟨[.int .i64 0, .int .i64 0], 29, true, 2⟩), (5, ⟨[.int .i64 5, .int .i64 1], 29, true, 2⟩)] ?_
 refine qW (
  .a 2 6 <| .p (qC (lY)) <| .a 1 6 <| .p (jQ 7) <| .e 1 8) ?_
 refine aw_e1 2 8<|qE<|aw_e 239 1 8<|qD 478 479<|qR 956<|qH<|qD 958 959<|qM 1 1917<|aw_e 3835 4 8<|qW (
  .a 2 9 <| .p (qC (lX)) <| .a 1 9 <| .p (jQ 10) <| .e 1 11) ?_
 refine aw_e1 2 11<|qE<|aw_e 239 1 11<|qD 478 479<|qP 957<|q5 0<|qG<|qD 30 31<|aw_e 61 3 11<|aw_w [(1, .int .i64 1), (4, .slice none 0 0), (5, .slice (some ⟨10, 0, none⟩) 3 0), (29, .bool false)] [(0, ⟨[.int .i64 0, .int .i64 0, .int .i64 5, .int .i64 1, .int .i64 10, .int .i64 0], 29, true, 2⟩), (10, ⟨[.int .i64 0, .int .i64 0, .int .i64 5, .int .i64 1, .int .i64 10, .int .i64 0], 29, true, 2⟩)] ?_
 refine qP 123<|qH<|aw_p 63 (
  .a 2 11 <| .p (vS (kl := .i64) (kc := .i64) (n' := 3) (c' := 3) 11 4 1 1 3 3 (.bool false) [.bool false, .bool false, .bool false] kK kK kK kK dD dD dD dD dD) <| .e 1 12) ?_
 refine aw_e 127 9 12<|aw_p 255 (
  .a 6 12 <| .p (qQ [10, 11] (au_b6_164)) <| .nil _ _) ?_
 refine aw_p 511 (
  .a 2 12 <| .p (vS (kl := .i64) (kc := .i64) (n' := 0) (c' := 3) 12 29 2 16 0 3 (.agg #[.int .i64 0, .int .i64 0]) [] kK kK kK kK dD dD dD dD dD) <| .e 1 13) ?_
 refine qD 1022 1023<|aw_e 2045 3 13<|aw_w [(4, .slice none 0 0), (8, .slice (some ⟨11, 0, none⟩) 3 0), (9, .slice (some ⟨12, 0, none⟩) 0 0), (51, .slice (some ⟨10, 0, none⟩) 3 0), (52, .int .i64 3), (53, .int .i64 0)] [(0, ⟨[.int .i64 0, .int .i64 0, .int .i64 5, .int .i64 1, .int .i64 10, .int .i64 0], 29, true, 2⟩), (10, ⟨[.int .i64 0, .int .i64 0, .int .i64 5, .int .i64 1, .int .i64 10, .int .i64 0], 29, true, 2⟩), (11, ⟨[.bool true, .bool false, .bool true], 4, true, 1⟩), (12, ⟨[], 29, true, 2⟩)] ?_
 refine qM 2 4091<|q6 8183<|qE<|aw_e 16367 1 13<|qD 32734 32735<|qR 65468<|qH<|qD 65470 65471<|qM 3 130941<|aw_e 261883 6 13<|aw_e 523767 4 14<|qR 1047534<|qW (
  .a 3 14 <| .p (jQ 15) <| .e 1 16) ?_
 refine aw_e1 2 16<|qE<|aw_e 16367 1 16<|qD 32734 32735<|qR 65468<|qH<|qD 65470 65471<|qM 3 130941<|aw_e 261883 6 16<|aw_w [(4, .slice none 0 0), (8, .slice (some ⟨11, 0, none⟩) 3 0), (9, .slice (some ⟨15, 0, none⟩) 1 0), (10, .int .i64 1), (11, .pointer (some ⟨16, 0, none⟩)), (51, .slice (some ⟨10, 0, none⟩) 3 0), (52, .int .i64 3), (53, .int .i64 1), (54, .bool true), (61, .bool true)] [(0, ⟨[.int .i64 0, .int .i64 0, .int .i64 5, .int .i64 1, .int .i64 10, .int .i64 0], 29, true, 2⟩), (10, ⟨[.int .i64 0, .int .i64 0, .int .i64 5, .int .i64 1, .int .i64 10, .int .i64 0], 29, true, 2⟩), (11, ⟨[.bool true, .bool false, .bool true], 4, true, 1⟩), (15, ⟨[.int .i64 0, .int .i64 0], 29, true, 2⟩), (16, ⟨[.int .i64 5, .int .i64 1], 29, true, 2⟩)] ?_
 refine aw_e 523767 4 17<|qP 1047535<|qH<|aw_e1 2 17<|qE<|aw_e 16367 1 17<|qD 32734 32735<|qR 65468<|qH<|qD 65470 65471<|qM 3 130941<|aw_e 261883 6 17<|aw_e 523767 4 18<|qR 1047534<|qW (
  .a 3 18 <| .p (jQ 19) <| .e 1 20) ?_
 refine aw_e1 2 20<|qE<|aw_e 16367 1 20<|aw_w [(4, .slice none 0 0), (8, .slice (some ⟨11, 0, none⟩) 3 0), (9, .slice (some ⟨19, 0, none⟩) 2 0), (10, .int .i64 2), (11, .pointer (some ⟨17, 0, none⟩)), (51, .slice (some ⟨10, 0, none⟩) 3 0), (52, .int .i64 3), (53, .int .i64 3), (54, .bool false), (61, .bool true)] [(0, ⟨[.int .i64 0, .int .i64 0, .int .i64 5, .int .i64 1, .int .i64 10, .int .i64 0], 29, true, 2⟩), (10, ⟨[.int .i64 0, .int .i64 0, .int .i64 5, .int .i64 1, .int .i64 10, .int .i64 0], 29, true, 2⟩), (11, ⟨[.bool true, .bool false, .bool true], 4, true, 1⟩), (17, ⟨[.int .i64 10, .int .i64 0], 29, true, 2⟩), (19, ⟨[.int .i64 0, .int .i64 0, .int .i64 10, .int .i64 0], 29, true, 2⟩)] ?_
 refine qD 32734 32735<|qP 65469<|q5 2<|qG<|aw_e 2047 2 20<|aw_r [(1, 19)] [(4, .slice (some ⟨19, 0, none⟩) 2 0)] [(0, ⟨[.int .i64 0, .int .i64 0, .int .i64 5, .int .i64 1, .int .i64 10, .int .i64 0], 29, true, 2⟩), (19, ⟨[.int .i64 0, .int .i64 0, .int .i64 10, .int .i64 0], 29, true, 2⟩)] [(4, .slice (some ⟨1, 0, none⟩) 2 0)] [(0, ⟨[.int .i64 0, .int .i64 0, .int .i64 5, .int .i64 1, .int .i64 10, .int .i64 0], 29, true, 2⟩), (1, ⟨[.int .i64 0, .int .i64 0, .int .i64 10, .int .i64 0], 29, true, 2⟩)] ?_ ⟨rfl, (.slice _ _ _ _ _ rfl), trivial⟩ ⟨rfl, ⟨rfl, rfl, rfl, (.flats kK)⟩, rfl, ⟨rfl, rfl, rfl, (.flats kK)⟩, trivial⟩
 exact qF<|qB [.slice (some ⟨1, 0, none⟩) 2 0] kK
theorem au_b6_166  :
    AC Try.prog 17 2 ([.slice (some ⟨0, 0, none⟩) 2 0, .slice (some ⟨1, 0, none⟩) 2 0]) [(0, ⟨[.int .i64 0, .int .i64 0, .int .i64 10, .int .i64 0], 29, true, 2⟩), (1, ⟨[.int .i64 0, .int .i64 0, .int .i64 10, .int .i64 0], 29, true, 2⟩)] (.bool true) [(0, ⟨[.int .i64 0, .int .i64 0, .int .i64 10, .int .i64 0], 29, true, 2⟩), (1, ⟨[.int .i64 0, .int .i64 0, .int .i64 10, .int .i64 0], 29, true, 2⟩)] := by
 refine qK Try.func17 (fun w0 W pin => ?_)
 refine aw_e 3 1 2<|qD 6 7<|aw_e 13 5 2<|qP 27<|qH<|qD 14 15<|aw_e 29 3 2<|qM 0 59<|q6 119<|qE<|aw_e 239 1 2<|qD 478 479<|qR 956<|qH<|qD 958 959<|qM 1 1917<|aw_e 3835 2 2<|aw_d 7671 (
  .a 8 2 <| .p (qV false ((show (!((0 == 0) && ((0 == 0) && true))) = false from by decide))) <| .nil _ _) ?_
 refine qP 15343<|qH<|aw_e1 2 2<|qE<|aw_e 239 1 2<|qD 478 479<|qR 956<|qH<|qD 958 959<|qM 1 1917<|aw_e 3835 2 2<|aw_w [(0, .slice (some ⟨0, 0, none⟩) 2 0), (1, .slice (some ⟨1, 0, none⟩) 2 0), (4, .bool false), (5, .int .i64 1), (12, .int .i64 2), (13, .int .i64 1), (14, .bool true), (24, .bool false)] [(0, ⟨[.int .i64 0, .int .i64 0, .int .i64 10, .int .i64 0], 29, true, 2⟩), (1, ⟨[.int .i64 0, .int .i64 0, .int .i64 10, .int .i64 0], 29, true, 2⟩)] ?_
 refine aw_d 7671 (
  .a 8 2 <| .p (qV false ((show (!((10 == 10) && ((0 == 0) && true))) = false from by decide))) <| .nil _ _) ?_
 exact qP 15343<|qH<|aw_e1 2 2<|qE<|aw_e 239 1 2<|qD 478 479<|qP 957<|q5 0<|qG<|aw_e 31 1 2<|qF<|qB [.bool true] kK
theorem qEF  :
    AC Try.prog 48 0 ([]) [] (.bool true) [] := by
 refine qK Try.func48 (fun w0 W pin => ?_)
 refine aw_e 3 1 1<|aw_e 7 1 1<|aw_p 15 (
  .a 1 1 <| .p (qC (tT)) <| .a 1 1 <| .p (qC (au_b6_2)) <| .a 1 1 <| .p (qC (au_b6_3)) <| .a 1 1 <| .p (qC (au_b6_4)) <| .e 2 1) ?_
 refine aw_p 31 (
  .a 1 2 <| .p (qC (tT)) <| .a 1 2 <| .p (qC (au_b6_5)) <| .a 1 2 <| .p (qC (au_b6_6)) <| .a 1 2 <| .p (qC (au_b6_7)) <| .p (qC (au_b6_75)) <| .e 6 2) ?_
 refine aw_w [(0, .bool false), (1, .func (.func 89) #[] #[]), (2, .slice (some ⟨1, 0, none⟩) 4 0), (3, .pointer (some ⟨2, 0, none⟩)), (4, .int .i64 0)] [(1, ⟨[.int .i64 0, .int .i64 0, .int .i64 2, .int .i64 0, .int .i64 2, .int .i64 2, .int .i64 0, .int .i64 2], 29, true, 2⟩), (2, ⟨[.int .i64 1, .int .i64 2, .int .i64 1, .int .i64 2], 61, true, 4⟩)] ?_
 refine aw_p 63 (
  .a 7 3 <| .p (qV true ((show (((1 == 1) && ((2 == 2) && true)) && (((1 == 1) && ((2 == 2) && true)) && true)) = true from by decide))) <| .a 3 3 <| .p (qQ [1] (au_b6_85)) <| .a 5 3 <| .p (qC (au_b6_5)) <| .p (qQ [1] (au_b6_110)) <| .a 3 3 <| .p (qC (au_b6_112)) <|
  .p (qC (au_b6_113)) <| .p (qV true ((show ((0 == 0) && ((15 == 15) && true)) = true from by decide))) <| .a 3 3 <| .p (qQ [1, 3] (au_b6_144)) <| .a 5 4 <| .p (qC (tT)) <| .a 1 4 <| .p (qC (au_b6_145)) <| .a 1 4 <| .p (qC (lZ)) <| .a 1 4 <|
  .p (qQ [4, 5] (au_b6_165)) <| .a 1 6 <| .p (qC (tT)) <| .a 1 6 <| .p (qC (lZ)) <| .a 1 6 <| .p (qQ [5, 6] (au_b6_166)) <| .e 2 7) ?_
 refine aw_w [(0, .bool true)] [] ?_
 exact qF<|qB [.bool true] kK
end Go.Proofs.Ytadifmimefmcnaa.Am
