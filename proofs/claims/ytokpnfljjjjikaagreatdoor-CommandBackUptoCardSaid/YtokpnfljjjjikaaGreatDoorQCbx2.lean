import Derived.Test.YtokpnfljjjjikaaGreatDoorZo
import Derived.Test.YtokpnfljjjjikaaGreatDoorQCbx0
namespace Go.Proofs.YtokpnfljjjjikaaGreatDoor.nX
open Go.RowKit Go.Proofs.aj.bW Go.Proofs.aj.fW Go.Proofs.aj.dz
attribute [local go_sem] jg jh kO kP iK iL ji jk
set_option linter.unusedVariables false
set_option linter.unusedSimpArgs false
theorem ad6 (d:Nat) (w:World) (x0 y0:ByteArray) (x1 y1:ByteArray) (x2 y2:Bool):
 (Op.equalIn (d + 2) 58 (.agg #[.string x0,.string x1,.bool x2]) (.agg #[.string y0,.string y1,.bool y2])).run Tryz.prog w= .ok (x0.toList == y0.toList && (x1.toList == y1.toList && (x2 == y2))) w:=by
 refine UM Tryz.underlying58 au ?_
 refine zQ (by rfl) oD oD (by go_simp) ?_
 refine zQ (by rfl) oD oD (by go_simp) ?_
 exact Lv (by rfl) oD oD (by go_simp)
end Go.Proofs.YtokpnfljjjjikaaGreatDoor.nX
