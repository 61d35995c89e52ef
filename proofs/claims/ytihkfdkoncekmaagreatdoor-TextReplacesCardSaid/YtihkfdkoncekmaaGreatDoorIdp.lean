/- This text proves the statement TextReplacesCardSaid: TextReplaces returns true for every string; it has no conditions. -/
import Derived.Test.YtihkfdkoncekmaaGreatDoorIdn
import Derived.Test.YtihkfdkoncekmaaGreatDoorIdo

set_option linter.unusedSimpArgs false
set_option linter.unusedVariables false

namespace Go.Proofs.YtihkfdkoncekmaaGreatDoor
open Go.Idl

theorem replaces_ideal (s : List UInt8) (_ : s.length ≤ maxLen) : ∃ k m', (sem tab prims k).call (.f 3) [.str s] ⟨[], 0⟩ = some (.bool true, m') := by
  obtain ⟨k, hk⟩ := callW_iff.1 (call3 s)
  exact ⟨k, _, hk⟩

/-- TextReplaces, told with its card. -/
theorem textReplaces_proved : Rows.TextReplacesCardSaid := textReplaces_card replaces_ideal
#print axioms textReplaces_proved
end Go.Proofs.YtihkfdkoncekmaaGreatDoor
