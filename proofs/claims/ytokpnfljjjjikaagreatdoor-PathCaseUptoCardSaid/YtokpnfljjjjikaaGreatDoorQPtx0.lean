import Derived.Test.YtokpnfljjjjikaaGreatDoorProg
import Derived.Test.YtokpnfljjjjikaaGreatDoorWTab
import Derived.Test.YtokpnfljjjjikaaGreatDoorWEqStruct
import Derived.Test.YtokpnfljjjjikaaGreatDoorWGuard
import Derived.Test.YtokpnfljjjjikaaGreatDoorWMore
namespace Go.Proofs.YtokpnfljjjjikaaGreatDoor.lO
open Go.RowKit Go.Proofs.aj.bw Go.Proofs.aj.eU Go.Proofs.aj.cj
attribute [local go_sem] gL gM iL iM fZ gf gP gQ
set_option linter.unusedVariables false
set_option linter.unusedSimpArgs false
def Qa:Option Int→Value
 |none=> .nilIface
 |some c=> .iface 0 (.int .i64 c)
theorem jW:Qa none= .nilIface:=rfl
theorem jX (c:Int):Qa (some c)= .iface 0 (.int .i64 c):=rfl
theorem Ey:(Tryz.prog.info? 5).map (fun i=>(i.zero,i.size,i.bytes))=some (some (.int .u8 0),1,1):=by kernel_rfl
theorem Qb:(Tryz.prog.info? 9).map (fun i=>(i.zero,i.size,i.bytes))=some (some (.string ⟨#[]⟩),1,16):=by kernel_rfl
structure S82 where
 f0:ByteArray
 f1:Int
structure S30 where
 f0:ByteArray
 f1:ByteArray
 f2:Bool
structure S32 where
 f0:Bool
 f1:(List ByteArray)
 f2:S30
end Go.Proofs.YtokpnfljjjjikaaGreatDoor.lO
