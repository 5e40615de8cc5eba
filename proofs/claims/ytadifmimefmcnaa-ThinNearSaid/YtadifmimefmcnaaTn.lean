/-
  The walk of the next number of the stream, at any place.
-/
import Derived.Test.YtadifmimefmcnaaProg
import Derived.Test.YtadifmimefmcnaaAm16
import Derived.Test.YtadifmimefmcnaaPt1
import Derived.Test.YtadifmimefmcnaaAm22
namespace Go.Proofs.Ytadifmimefmcnaa.Am
open Go Go.Proofs
set_option maxRecDepth 100000
set_option maxHeartbeats 4000000
set_option linter.unusedVariables false
set_option linter.unusedSimpArgs false

theorem nextz (xs : List Int) (p : Nat) (n : Int) (h0 : 0 < n) (hz : n ≤ 9223372036854775807) : AC Try.prog 127 2 [.pointer (some ⟨0, 0, none⟩), .int .i64 n] [(0, ⟨[.slice (some ⟨1, (min p xs.length), none⟩) (xs.length - p) 0], 67, true, 1⟩), (1, ⟨(xs.map i64v), 3, false, 1⟩)] (.int .i64 (xs.getD p 0 % n)) [(0, ⟨[.slice (some ⟨1, (min (p + 1) xs.length), none⟩) (xs.length - (p + 1)) 0], 67, true, 1⟩)] := by
  by_cases hp : p < xs.length
  · have h := next_ro xs p n hp h0 hz
    rw [show min p xs.length = p by omega, show min (p + 1) xs.length = p + 1 by omega, Nat.sub_add_eq]
    exact h
  · have h := next0_ro xs (min p xs.length) n (by omega)
    rw [show xs.length - min p xs.length = 0 by omega] at h
    rw [show min (p + 1) xs.length = min p xs.length by omega, show xs.length - p = 0 by omega, show xs.length - (p + 1) = 0 by omega, show xs.getD p 0 = 0 by simp [List.getD, List.getElem?_eq_none (Nat.le_of_not_lt hp)], Int.zero_emod]
    exact h
theorem nextz0 (xs : List Int) (n : Int) (h0 : 0 < n) (hz : n ≤ 9223372036854775807) : AC Try.prog 127 2 [.pointer (some ⟨0, 0, none⟩), .int .i64 n] [(0, ⟨[.slice (some ⟨1, 0, none⟩) (xs.length) 0], 67, true, 1⟩), (1, ⟨(xs.map i64v), 3, false, 1⟩)] (.int .i64 (xs.getD 0 0 % n)) [(0, ⟨[.slice (some ⟨1, (min (0 + 1) xs.length), none⟩) (xs.length - (0 + 1)) 0], 67, true, 1⟩)] := by
  have h := nextz xs 0 n h0 hz
  rw [Nat.zero_min, Nat.sub_zero] at h
  exact h
theorem nextzo (xs : List Int) (p : Nat) (n : Int) (h0 : 0 < n) (hz : n ≤ 9223372036854775807) : AC Try.prog 127 2 [.pointer (some ⟨0, 0, none⟩), .int .i64 n] [(0, ⟨[.slice (some ⟨1, (min p xs.length), none⟩) (xs.length - p) 0], 67, true, 1⟩), (1, ⟨(xs.map i64v), 3, true, 1⟩)] (.int .i64 (xs.getD p 0 % n)) [(0, ⟨[.slice (some ⟨1, (min (p + 1) xs.length), none⟩) (xs.length - (p + 1)) 0], 67, true, 1⟩), (1, ⟨(xs.map i64v), 3, true, 1⟩)] := by
  by_cases hp : p < xs.length
  · have h := next_own xs p n hp h0 hz
    rw [show min p xs.length = p by omega, show min (p + 1) xs.length = p + 1 by omega, Nat.sub_add_eq]
    exact h
  · have h := next0_own xs (min p xs.length) n (by omega)
    rw [show xs.length - min p xs.length = 0 by omega] at h
    rw [show min (p + 1) xs.length = min p xs.length by omega, show xs.length - p = 0 by omega, show xs.length - (p + 1) = 0 by omega, show xs.getD p 0 = 0 by simp [List.getD, List.getElem?_eq_none (Nat.le_of_not_lt hp)], Int.zero_emod]
    exact h
theorem nextz0o (xs : List Int) (n : Int) (h0 : 0 < n) (hz : n ≤ 9223372036854775807) : AC Try.prog 127 2 [.pointer (some ⟨0, 0, none⟩), .int .i64 n] [(0, ⟨[.slice (some ⟨1, 0, none⟩) (xs.length) 0], 67, true, 1⟩), (1, ⟨(xs.map i64v), 3, true, 1⟩)] (.int .i64 (xs.getD 0 0 % n)) [(0, ⟨[.slice (some ⟨1, (min (0 + 1) xs.length), none⟩) (xs.length - (0 + 1)) 0], 67, true, 1⟩), (1, ⟨(xs.map i64v), 3, true, 1⟩)] := by
  have h := nextzo xs 0 n h0 hz
  rw [Nat.zero_min, Nat.sub_zero] at h
  exact h

end Go.Proofs.Ytadifmimefmcnaa.Am
