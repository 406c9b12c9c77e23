import Derived.Test.YtbjjaaodfbjkfaaGreatDoorQQux0
namespace Go.Proofs.YtbjjaaodfbjkfaaGreatDoor.mU
open Go.RowKit Go.Proofs.ak.bR Go.Proofs.ak.dz Go.Proofs.ak.cZ
attribute [local go_sem] iR iT jW jX gW gX jh ji
set_option linter.unusedVariables false
set_option linter.unusedSimpArgs false
theorem akb (d:Nat) (w:World) (x0 y0:Int) (x1 y1:Int):
 (Op.equalIn (d + 2) 63 (.agg #[.int .i64 x0,.int .i64 x1]) (.agg #[.int .i64 y0,.int .i64 y1])).run Tryz.prog w= .ok (x0 == y0 && (x1 == y1)) w:=by
 refine Mm Tryz.underlying63 aq ?_
 refine tv (by rfl) kY kY pQ ?_
 exact DR (by rfl) kY kY pQ
end Go.Proofs.YtbjjaaodfbjkfaaGreatDoor.mU
