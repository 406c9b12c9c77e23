import Derived.Test.YtokpnfljjjjikaaGreatDoorZo
import Derived.Test.YtokpnfljjjjikaaGreatDoorQCbx0
namespace Go.Proofs.YtokpnfljjjjikaaGreatDoor.pJ
open Go.RowKit Go.Proofs.aj.bV Go.Proofs.aj.gq Go.Proofs.aj.dB
attribute [local go_sem] jo jq kM kN iO iP jr jt
set_option linter.unusedVariables false
set_option linter.unusedSimpArgs false
theorem adH (d:Nat) (w:World) (x0 y0:ByteArray) (x1 y1:ByteArray) (x2 y2:Bool):
 (Op.equalIn (d + 2) 58 (.agg #[.string x0,.string x1,.bool x2]) (.agg #[.string y0,.string y1,.bool y2])).run Tryz.prog w= .ok (x0.toList == y0.toList && (x1.toList == y1.toList && (x2 == y2))) w:=by
 refine Vj Tryz.underlying58 av ?_
 refine Ah (by rfl) oQ oQ (by go_simp) ?_
 refine Ah (by rfl) oQ oQ (by go_simp) ?_
 exact LN (by rfl) oQ oQ (by go_simp)
end Go.Proofs.YtokpnfljjjjikaaGreatDoor.pJ
