/- This text proves the statement TextChecksCardSaid: TextChecks returns true for every input that it admits; it has no conditions. -/
import Derived.Test.YtihkfdkoncekmaaGreatDoorIdq
import Derived.Test.YtihkfdkoncekmaaGreatDoorIdk
set_option linter.unusedSimpArgs false
set_option linter.unusedVariables false
namespace Go.Proofs.YtihkfdkoncekmaaGreatDoor
open Go.Idl
theorem vv (v:Val) (c:List IV) (hb:bigV v) (hc:ValR v c):∃k m',(sem tab ae k).call (.f 5) [.agg c] ⟨[],0⟩=some (.bool true,m'):=by
 obtain⟨k,hk⟩:=gi.1 (Mv v c hb hc)
 exact⟨k,_,hk⟩
theorem textChecks_proved:Rows.TextChecksCardSaid:=pz vv
#print axioms textChecks_proved
end Go.Proofs.YtihkfdkoncekmaaGreatDoor
