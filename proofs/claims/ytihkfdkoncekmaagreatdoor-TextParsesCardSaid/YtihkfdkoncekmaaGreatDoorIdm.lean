/- This text proves the statement TextParsesCardSaid: TextParses returns true for every input that it admits; it has no conditions. -/
import Derived.Test.YtihkfdkoncekmaaGreatDoorIdq
import Derived.Test.YtihkfdkoncekmaaGreatDoorIdk
set_option linter.unusedSimpArgs false
set_option linter.unusedVariables false
namespace Go.Proofs.YtihkfdkoncekmaaGreatDoor
open Go.Idl
theorem uE (s:List UInt8) (_:s.length≤maxLen):∃k m',(sem tab aa k).call (.f 4) [.str s] ⟨[],0⟩=some (.bool true,m'):=by
 obtain⟨k,hk⟩:=f6.1 (LJ s)
 exact⟨k,_,hk⟩
theorem textParses_proved:Rows.TextParsesCardSaid:=oQ uE
#print axioms textParses_proved
end Go.Proofs.YtihkfdkoncekmaaGreatDoor
