import Derived.Deep.AppendLies
import Derived.Deep.OwnRows
import Derived.Lib.ConvBytes
import Derived.WalkKit
import Derived.BigQuiet
import Derived.Deep.DeepCutAuto
import Derived.Deep.CutBlock
import Derived.Deep.RegionHeld3
import Derived.Lib.AppendStr
set_option linter.unusedVariables false
namespace Go.Proofs
theorem iI {p:Prop} (h:p:=by omega):p:=h
theorem Es {p:Prop} (h:p:=by rw [h] at hr;cases hr):p:=h
end Go.Proofs
