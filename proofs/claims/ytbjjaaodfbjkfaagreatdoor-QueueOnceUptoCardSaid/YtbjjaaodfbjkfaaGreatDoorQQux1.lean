import Derived.Test.YtbjjaaodfbjkfaaGreatDoorQQux0
namespace Go.Proofs.YtbjjaaodfbjkfaaGreatDoor.mU
open Go.RowKit Go.Proofs.ak.bR Go.Proofs.ak.dz Go.Proofs.ak.cZ
attribute [local go_sem] iR iT jW jX gW gX jh ji
set_option linter.unusedVariables false
set_option linter.unusedSimpArgs false
theorem Oc (d:Nat) (w:World) (x0 y0:ByteArray) (x1 y1:ByteArray) (x2 y2:Bool):
 (Op.equalIn (d + 2) 29 (.agg #[.string x0,.string x1,.bool x2]) (.agg #[.string y0,.string y1,.bool y2])).run Tryz.prog w= .ok (x0.toList == y0.toList && (x1.toList == y1.toList && (x2 == y2))) w:=by
 refine Mm Tryz.underlying29 aq ?_
 refine tv (by rfl) kY kY pQ ?_
 refine tv (by rfl) kY kY pQ ?_
 exact DR (by rfl) kY kY pQ
end Go.Proofs.YtbjjaaodfbjkfaaGreatDoor.mU
