import Derived.Test.YtbjjaaodfbjkfaaGreatDoorQQux0
namespace Go.Proofs.YtbjjaaodfbjkfaaGreatDoor.ow
open Go.RowKit Go.Proofs.ak.bY Go.Proofs.ak.dU Go.Proofs.ak.dJ
attribute [local go_sem] jt ju kH kI iw iy jv jw
set_option linter.unusedVariables false
set_option linter.unusedSimpArgs false
theorem ajh (d:Nat) (w:World) (x0 y0:Int) (x1 y1:Int):
 (Op.equalIn (d + 2) 63 (.agg #[.int .i64 x0,.int .i64 x1]) (.agg #[.int .i64 y0,.int .i64 y1])).run Tryz.prog w= .ok (x0 == y0 && (x1 == y1)) w:=by
 refine NT Tryz.underlying63 au ?_
 refine uy (by rfl) l5 l5 qJ ?_
 exact EP (by rfl) l5 l5 qJ
end Go.Proofs.YtbjjaaodfbjkfaaGreatDoor.ow
