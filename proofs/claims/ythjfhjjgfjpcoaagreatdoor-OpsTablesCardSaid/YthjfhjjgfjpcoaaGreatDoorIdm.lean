/- This text proves the statement OpsTablesCardSaid: OpsTables returns true for every input that it admits; it has no conditions. -/
import Derived.Test.YthjfhjjgfjpcoaaGreatDoorIdq
import Derived.Test.YthjfhjjgfjpcoaaGreatDoorIdk
set_option linter.unusedSimpArgs false
set_option linter.unusedVariables false
namespace Go.Proofs.YthjfhjjgfjpcoaaGreatDoor
open Go.Idl
theorem tables_ideal (n:Int) (s:List UInt8) (k:Int):∃j m',(sem tab prims j).call (.f 4) [.int .i64 n,.str s,.int .i64 k] ⟨[],0⟩=some (.bool true,m'):=by
 obtain⟨j,hj⟩:=callW_iff.1 (law4 n s k)
 exact⟨j,_,hj⟩
theorem opsTables_proved:Rows.OpsTablesCardSaid:=opsTables_card tables_ideal
#print axioms opsTables_proved
end Go.Proofs.YthjfhjjgfjpcoaaGreatDoor
