/- This text proves the statement TextReturnsCardSaid: TextReturns returns true for every input that it admits; it has no conditions. -/
import Derived.Test.YtihkfdkoncekmaaGreatDoorIdq
import Derived.Test.YtihkfdkoncekmaaGreatDoorIdk
namespace Go.Proofs.YtihkfdkoncekmaaGreatDoor
open Go.Idl
theorem yq (v:dL) (c:List IV) (n:Int) (hb:ql v) (hc:gh v c):∃k m',(jc da al k).call (.f 6) [.agg c,.int .i64 n] ⟨[],0⟩=some (.bool true,m'):=by obtain⟨k,hk⟩:=jF.1 (WH v c hb hc n);exact⟨k,_,hk⟩
theorem textReturns_proved:Rows.TextReturnsCardSaid:=tx yq
#print axioms textReturns_proved
end Go.Proofs.YtihkfdkoncekmaaGreatDoor
