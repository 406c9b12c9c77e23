import Derived.Test.YtbjjaaodfbjkfaaGreatDoorQQux1
namespace Go.Proofs.YtbjjaaodfbjkfaaGreatDoor.mU
open Go.RowKit Go.Proofs.ak.bR Go.Proofs.ak.dz Go.Proofs.ak.cZ
attribute [local go_sem] iR iT jW jX gW gX jh ji
set_option linter.unusedVariables false
set_option linter.unusedSimpArgs false
theorem abD (d:Nat) (w:World) (x0 y0:ByteArray) (x1 y1:ByteArray) (x2 y2:Bool) (x3 y3:Int) (x4 y4:Int) (x5 y5:Int):
 (Op.equalIn (d + 3) 37 (.agg #[.string x0,.string x1,.bool x2,.int .u8 x3,.int .i64 x4,.int .i64 x5]) (.agg #[.string y0,.string y1,.bool y2,.int .u8 y3,.int .i64 y4,.int .i64 y5])).run Tryz.prog w= .ok ((x0.toList == y0.toList && (x1.toList == y1.toList && (x2 == y2))) && (x3 == y3 && (x4 == y4 && (x5 == y5)))) w:=by
 refine Mm Tryz.underlying37 aq ?_
 refine tv (by rfl) pQ pQ (Oc (d + 0) w _ _ _ _ _ _) ?_
 refine tv (by rfl) kY kY pQ ?_
 refine tv (by rfl) kY kY pQ ?_
 exact DR (by rfl) kY kY pQ
end Go.Proofs.YtbjjaaodfbjkfaaGreatDoor.mU
