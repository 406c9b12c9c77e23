import Derived.Test.YtbjjaaodfbjkfaaGreatDoorQQux0
namespace Go.Proofs.YtbjjaaodfbjkfaaGreatDoor.mN
open Go.RowKit Go.Proofs.ak.bQ Go.Proofs.ak.dA Go.Proofs.ak.cX
attribute [local go_sem] jc jd j4 j5 gU gV je jf
set_option linter.unusedVariables false
set_option linter.unusedSimpArgs false
theorem aiV (d:Nat) (w:World) (x0 y0:Int) (x1 y1:Int):
 (Op.equalIn (d + 2) 63 (.agg #[.int .i64 x0,.int .i64 x1]) (.agg #[.int .i64 y0,.int .i64 y1])).run Tryz.prog w= .ok (x0 == y0 && (x1 == y1)) w:=by
 refine Ll Tryz.underlying63 aq ?_
 refine tj (by rfl) kP kP pM ?_
 exact Ds (by rfl) kP kP pM
end Go.Proofs.YtbjjaaodfbjkfaaGreatDoor.mN
