/- This text proves the statement OpsConsequencesCardSaid: OpsConsequences returns true for every input that it admits; it has no conditions. -/
import Derived.Test.YtbpnjicaapldoaaGreatDoorIdq
import Derived.Test.YtbpnjicaapldoaaGreatDoorIdk
set_option linter.unusedSimpArgs false
set_option linter.unusedVariables false
namespace Go.Proofs.YtbpnjicaapldoaaGreatDoor
open Go.Idl
theorem conseq_ideal (s:List UInt8) (x y:Nat) (hx:x<18446744073709551616) (hy:y<18446744073709551616):∃j m',(sem tab prims j).call (.f 3) [.str s,.agg [.int .u64 (x:Int),.int .u64 (y:Int)]] ⟨[],0⟩=some (.bool true,m'):=by
 obtain⟨j,hj⟩:=callW_iff.1 (law3 s x y hx hy)
 exact⟨j,_,hj⟩
theorem opsConsequences_proved:Rows.OpsConsequencesCardSaid:=opsConsequences_card conseq_ideal
#print axioms opsConsequences_proved
end Go.Proofs.YtbpnjicaapldoaaGreatDoor
