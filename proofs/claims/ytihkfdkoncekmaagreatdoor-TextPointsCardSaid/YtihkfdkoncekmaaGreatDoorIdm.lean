/- This text proves the statement TextPointsCardSaid: TextPoints returns true for every number and every string; it has no conditions. -/
import Derived.Test.YtihkfdkoncekmaaGreatDoorIdl
import Derived.Test.YtihkfdkoncekmaaGreatDoorIdk

set_option linter.unusedSimpArgs false
set_option linter.unusedVariables false

namespace Go.Proofs.YtihkfdkoncekmaaGreatDoor
open Go.Idl

theorem points_ideal (n : Int) (s : List UInt8) (_ : (Lit.int .i64 n).wf = true) (_ : s.length ≤ maxLen) : ∃ k m', (sem tab prims k).call (.f 8) [.int .i64 n, .str s] ⟨[], 0⟩ = some (.bool true, m') := by
  obtain ⟨k, hk⟩ := callW_iff.1 (call8 n s)
  exact ⟨k, _, hk⟩

/-- TextPoints, told with its card. -/
theorem textPoints_proved : Rows.TextPointsCardSaid := points_card points_ideal
#print axioms textPoints_proved
end Go.Proofs.YtihkfdkoncekmaaGreatDoor
