/- This text proves the statement TextSettlesCardSaid: TextSettles returns true for every input that it admits; it has no conditions. -/
import Derived.Test.YtihkfdkoncekmaaGreatDoorIdq
import Derived.Test.YtihkfdkoncekmaaGreatDoorIdk
set_option linter.unusedSimpArgs false
set_option linter.unusedVariables false
namespace Go.Proofs.YtihkfdkoncekmaaGreatDoor
open Go.Idl
theorem rW (s:List UInt8) (_:s.length≤maxLen):∃k m',(sem tab ae k).call (.f 7) [.str s] ⟨[],0⟩=some (.bool true,m'):=by
 obtain⟨k,hk⟩:=gi.1 (Lm s)
 exact⟨k,_,hk⟩
theorem textSettles_proved:Rows.TextSettlesCardSaid:=nn rW
#print axioms textSettles_proved
end Go.Proofs.YtihkfdkoncekmaaGreatDoor
