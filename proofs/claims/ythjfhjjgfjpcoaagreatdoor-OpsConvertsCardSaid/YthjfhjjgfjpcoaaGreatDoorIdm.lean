/- This text proves the statement OpsConvertsCardSaid: OpsConverts returns true for every input that it admits; it has no conditions. -/
import Derived.Test.YthjfhjjgfjpcoaaGreatDoorIdq
import Derived.Test.YthjfhjjgfjpcoaaGreatDoorIdk
set_option linter.unusedSimpArgs false
set_option linter.unusedVariables false
namespace Go.Proofs.YthjfhjjgfjpcoaaGreatDoor
open Go.Idl
theorem converts_ideal (n:Int) (f t:List UInt8):∃k m',(sem tab prims k).call (.f 3) [.int .i64 n,.str f,.str t] ⟨[],0⟩=some (.bool true,m'):=by
 obtain⟨k,hk⟩:=callW_iff.1 (law3 n f t)
 exact⟨k,_,hk⟩
theorem opsConverts_proved:Rows.OpsConvertsCardSaid:=opsConverts_card converts_ideal
#print axioms opsConverts_proved
end Go.Proofs.YthjfhjjgfjpcoaaGreatDoor
