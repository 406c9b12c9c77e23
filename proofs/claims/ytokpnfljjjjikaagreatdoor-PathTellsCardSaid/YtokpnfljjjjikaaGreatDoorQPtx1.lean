import Derived.Test.YtokpnfljjjjikaaGreatDoorZo
import Derived.Test.YtokpnfljjjjikaaGreatDoorQPtx0
namespace Go.Proofs.YtokpnfljjjjikaaGreatDoor.mY
open Go.RowKit Go.Proofs.aj.bO Go.Proofs.aj.fA Go.Proofs.aj.cK
attribute [local go_sem] ia ig iU iV gf gh ij iq
set_option linter.unusedVariables false
set_option linter.unusedSimpArgs false
theorem QW (d:Nat) (w:World) (x0 y0:ByteArray) (x1 y1:ByteArray) (x2 y2:Bool):
 (Op.equalIn (d + 2) 30 (.agg #[.string x0,.string x1,.bool x2]) (.agg #[.string y0,.string y1,.bool y2])).run Tryz.prog w= .ok (x0.toList == y0.toList && (x1.toList == y1.toList && (x2 == y2))) w:=by
 refine adg Tryz.underlying30 aq ?_
 refine Lx (by rfl) (by go_simp;rfl) (by go_simp;rfl) (by go_simp) ?_
 refine Lx (by rfl) (by go_simp;rfl) (by go_simp;rfl) (by go_simp) ?_
 exact Vo (by rfl) (by go_simp;rfl) (by go_simp;rfl) (by go_simp)
end Go.Proofs.YtokpnfljjjjikaaGreatDoor.mY
