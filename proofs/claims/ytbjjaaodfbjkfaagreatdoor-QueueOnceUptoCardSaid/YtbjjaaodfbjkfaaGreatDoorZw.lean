import Derived.Deep.AppendLies
import Derived.Deep.OwnRows
import Derived.Lib.ConvBytes
import Derived.WalkKit
import Derived.BigQuiet
import Derived.Deep.DeepCutAuto
import Derived.Deep.CutBlock
import Derived.Deep.RegionHeld3
import Derived.Lib.AppendStr
set_option linter.unusedVariables false
namespace Go.Proofs
theorem fy {p:Prop} (h:p:=by omega):p:=h
theorem aba {p:Prop} (h:p:=by simpa using World.news_of_block (cs:=ys.toArray) (t:=e) (fr:=(0,0)) (heap_alloc_new W (.cells ys.toArray e))):p:=h
theorem Kp {p:Prop} (h:p:=by simp [Value.ownBlock]):p:=h
theorem N3 {p:Prop} (h:p:=by rw [h] at hr;cases hr):p:=h
end Go.Proofs
