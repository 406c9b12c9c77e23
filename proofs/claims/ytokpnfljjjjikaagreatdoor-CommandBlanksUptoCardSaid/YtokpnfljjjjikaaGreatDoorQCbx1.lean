import Derived.Test.YtokpnfljjjjikaaGreatDoorQCbx0
namespace Go.Proofs.YtokpnfljjjjikaaGreatDoor.nK
open Go.RowKit Go.Proofs.aj.bQ Go.Proofs.aj.fR Go.Proofs.aj.cM
attribute [local go_sem] iY iZ ku kA ig ij jc jd
set_option linter.unusedVariables false
set_option linter.unusedSimpArgs false
theorem UI (d:Nat) (w:World) (x0 y0:ByteArray) (x1 y1:ByteArray) (x2 y2:Bool):
 (Op.equalIn (d + 2) 30 (.agg #[.string x0,.string x1,.bool x2]) (.agg #[.string y0,.string y1,.bool y2])).run Tryz.prog w= .ok (x0.toList == y0.toList && (x1.toList == y1.toList && (x2 == y2))) w:=by
 refine UB Tryz.underlying30 av ?_
 refine zY (by rfl) om om (by go_simp) ?_
 refine zY (by rfl) om om (by go_simp) ?_
 exact Lz (by rfl) om om (by go_simp)
end Go.Proofs.YtokpnfljjjjikaaGreatDoor.nK
