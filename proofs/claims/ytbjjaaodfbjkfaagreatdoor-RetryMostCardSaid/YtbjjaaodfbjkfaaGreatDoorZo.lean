import Derived.Test.YtbjjaaodfbjkfaaGreatDoorProg
import Derived.Deep.AppendLies
import Derived.Deep.OwnRows
import Derived.Lib.ConvBytes
import Derived.WalkKit
import Derived.BigQuiet
import Derived.Deep.DeepCutAuto
import Derived.Deep.CutBlock
import Derived.Deep.RegionHeld3
import Derived.Lib.AppendStr
set_option linter.unusedVariables false
namespace Go.Proofs
theorem aD {p:Prop} (h:p:=by repeat ((with_reducible exact HB.out))):p:=h
theorem bZ {p:Prop} (h:p:=by rw [hg];exact (bL (by repeat ((with_reducible exact HB.out))))):p:=h
theorem PZ {p:Prop} (h:p:=by refine aH (cs:=#[.int .u8 4,.int .i64 eZ,.int .i64 a3,.int .i64 0,.int .i64 0,.bool false,.slice none 0 0,.string (⟨#[]⟩:ByteArray),.string (⟨#[]⟩:ByteArray),.bool false,.slice none 0 0,.slice none 0 0,.int .i64 0]) ?_ 12 _ rfl;refine aH (cs:=#[.int .u8 4,.int .i64 eZ,.int .i64 a3,.int .i64 0,.int .i64 0,.bool false,.slice none 0 0,.string (⟨#[]⟩:ByteArray),.string (⟨#[]⟩:ByteArray),.bool false,.slice none 0 0,.slice none 0 0,.int .i64 0]) ?_ 11 _ rfl;refine aH (cs:=#[.int .u8 4,.int .i64 eZ,.int .i64 a3,.int .i64 0,.int .i64 0,.bool false,.slice none 0 0,.string (⟨#[]⟩:ByteArray),.string (⟨#[]⟩:ByteArray),.bool false,.slice none 0 0,.slice none 0 0,.int .i64 0]) ?_ 10 _ rfl;refine aH (cs:=#[.int .u8 4,.int .i64 eZ,.int .i64 a3,.int .i64 0,.int .i64 0,.bool false,.slice none 0 0,.string (⟨#[]⟩:ByteArray),.string (⟨#[]⟩:ByteArray),.bool false,.slice none 0 0,.slice none 0 0,.int .i64 0]) ?_ 9 _ rfl;refine aH (cs:=#[.int .u8 4,.int .i64 eZ,.int .i64 a3,.int .i64 0,.int .i64 0,.bool false,.slice none 0 0,.string (⟨#[]⟩:ByteArray),.string (⟨#[]⟩:ByteArray),.bool false,.slice none 0 0,.slice none 0 0,.int .i64 0]) ?_ 8 _ rfl;refine aH (cs:=#[.int .u8 4,.int .i64 eZ,.int .i64 a3,.int .i64 0,.int .i64 0,.bool false,.slice none 0 0,.string (⟨#[]⟩:ByteArray),.string (⟨#[]⟩:ByteArray),.bool false,.slice none 0 0,.slice none 0 0,.int .i64 0]) ?_ 7 _ rfl;refine aH (cs:=#[.int .u8 4,.int .i64 eZ,.int .i64 a3,.int .i64 0,.int .i64 0,.bool false,.slice none 0 0,.string (⟨#[]⟩:ByteArray),.string (⟨#[]⟩:ByteArray),.bool false,.slice none 0 0,.slice none 0 0,.int .i64 0]) ?_ 6 _ rfl;refine aH (cs:=#[.int .u8 4,.int .i64 eZ,.int .i64 a3,.int .i64 0,.int .i64 0,.bool false,.slice none 0 0,.string (⟨#[]⟩:ByteArray),.string (⟨#[]⟩:ByteArray),.bool false,.slice none 0 0,.slice none 0 0,.int .i64 0]) ?_ 5 _ rfl;refine aH (cs:=#[.int .u8 4,.int .i64 eZ,.int .i64 a3,.int .i64 0,.int .i64 0,.bool false,.slice none 0 0,.string (⟨#[]⟩:ByteArray),.string (⟨#[]⟩:ByteArray),.bool false,.slice none 0 0,.slice none 0 0,.int .i64 0]) ?_ 4 _ rfl;refine aH (cs:=#[.int .u8 4,.int .i64 eZ,.int .i64 a3,.int .i64 0,.int .i64 0,.bool false,.slice none 0 0,.string (⟨#[]⟩:ByteArray),.string (⟨#[]⟩:ByteArray),.bool false,.slice none 0 0,.slice none 0 0,.int .i64 0]) ?_ 3 _ rfl;refine aH (cs:=#[.int .u8 4,.int .i64 eZ,.int .i64 0,.int .i64 0,.int .i64 0,.bool false,.slice none 0 0,.string (⟨#[]⟩:ByteArray),.string (⟨#[]⟩:ByteArray),.bool false,.slice none 0 0,.slice none 0 0,.int .i64 0]) ?_ 2 _ rfl;refine aH (cs:=#[.int .u8 4,.int .i64 0,.int .i64 0,.int .i64 0,.int .i64 0,.bool false,.slice none 0 0,.string (⟨#[]⟩:ByteArray),.string (⟨#[]⟩:ByteArray),.bool false,.slice none 0 0,.slice none 0 0,.int .i64 0]) ?_ 1 _ rfl;refine aH (cs:=#[.int .u8 0,.int .i64 0,.int .i64 0,.int .i64 0,.int .i64 0,.bool false,.slice none 0 0,.string (⟨#[]⟩:ByteArray),.string (⟨#[]⟩:ByteArray),.bool false,.slice none 0 0,.slice none 0 0,.int .i64 0]) ?_ 0 _ rfl;refine aN ?_ bW.out _;refine aN ?_ bW.out _;refine aN ?_ bW.out _;refine aN ?_ bW.out _;refine aN ?_ bW.out _;refine aN ?_ bW.out _;refine aN ?_ bW.out _;refine aN ?_ bW.out _;refine aN ?_ bW.out _;refine aN ?_ bW.out _;refine aN ?_ bW.out _;refine aN ?_ bW.out _;refine aN ?_ bW.out _;refine aN ?_ bW.out _;exact bH.out):p:=h
theorem dc {p:Prop} (h:p:=by (try simp only [List.map_toArray,List.map_cons,List.map_nil]);rfl):p:=h
theorem dG {p:Prop} (h:p:=by repeat ((with_reducible first|exact HB.out|apply eF))):p:=h
theorem aR {p:Prop} (h:p:=by kernel_rfl):p:=h
theorem aaZ {p:Prop} (h:p:=by refine aH (cs:=#[.int .i64 ((av bn cy).f0),.bool ((av bn cy).f1.f0),.slice nV ((av bn cy).f1.f1).length nW,.string ((av bn cy).f1.f2.f0),.string ((av bn cy).f1.f2.f1),.bool ((av bn cy).f1.f2.f2),.slice rO ((av bn cy).f2).length rP,.slice sV ((av bn cy).f3).length sW,.int .i64 0]) ?_ 8 _ rfl;refine aH (cs:=#[.int .i64 ((av bn cy).f0),.bool ((av bn cy).f1.f0),.slice nV ((av bn cy).f1.f1).length nW,.string ((av bn cy).f1.f2.f0),.string ((av bn cy).f1.f2.f1),.bool ((av bn cy).f1.f2.f2),.slice rO ((av bn cy).f2).length rP,.slice none 0 0,.int .i64 0]) ?_ 7 _ rfl;refine aH (cs:=#[.int .i64 ((av bn cy).f0),.bool ((av bn cy).f1.f0),.slice nV ((av bn cy).f1.f1).length nW,.string ((av bn cy).f1.f2.f0),.string ((av bn cy).f1.f2.f1),.bool ((av bn cy).f1.f2.f2),.slice none 0 0,.slice none 0 0,.int .i64 0]) ?_ 6 _ rfl;refine aH (cs:=#[.int .i64 ((av bn cy).f0),.bool ((av bn cy).f1.f0),.slice nV ((av bn cy).f1.f1).length nW,.string ((av bn cy).f1.f2.f0),.string ((av bn cy).f1.f2.f1),.bool false,.slice none 0 0,.slice none 0 0,.int .i64 0]) ?_ 5 _ rfl;refine aH (cs:=#[.int .i64 ((av bn cy).f0),.bool ((av bn cy).f1.f0),.slice nV ((av bn cy).f1.f1).length nW,.string ((av bn cy).f1.f2.f0),.string (⟨#[]⟩:ByteArray),.bool false,.slice none 0 0,.slice none 0 0,.int .i64 0]) ?_ 4 _ rfl;refine aH (cs:=#[.int .i64 ((av bn cy).f0),.bool ((av bn cy).f1.f0),.slice nV ((av bn cy).f1.f1).length nW,.string (⟨#[]⟩:ByteArray),.string (⟨#[]⟩:ByteArray),.bool false,.slice none 0 0,.slice none 0 0,.int .i64 0]) ?_ 3 _ rfl;refine aH (cs:=#[.int .i64 ((av bn cy).f0),.bool ((av bn cy).f1.f0),.slice none 0 0,.string (⟨#[]⟩:ByteArray),.string (⟨#[]⟩:ByteArray),.bool false,.slice none 0 0,.slice none 0 0,.int .i64 0]) ?_ 2 _ rfl;refine aH (cs:=#[.int .i64 ((av bn cy).f0),.bool false,.slice none 0 0,.string (⟨#[]⟩:ByteArray),.string (⟨#[]⟩:ByteArray),.bool false,.slice none 0 0,.slice none 0 0,.int .i64 0]) ?_ 1 _ rfl;refine aH (cs:=#[.int .i64 0,.bool false,.slice none 0 0,.string (⟨#[]⟩:ByteArray),.string (⟨#[]⟩:ByteArray),.bool false,.slice none 0 0,.slice none 0 0,.int .i64 0]) ?_ 0 _ rfl;exact eI.out):p:=h
theorem cP {p:Prop} (h:p:=by (with_reducible assumption)):p:=h
theorem P4 {p:Prop} (h:p:=by exact (Kd.kB (Kd.kg (p:=⟨aU,12,none⟩) (Kd.kg (p:=⟨aU,11,none⟩) (Kd.kg (p:=⟨aU,10,none⟩) (Kd.kg (p:=⟨aU,9,none⟩) (Kd.kg (p:=⟨aU,8,none⟩) (Kd.kg (p:=⟨aU,7,none⟩) (Kd.kg (p:=⟨aU,6,none⟩) (Kd.kg (p:=⟨aU,5,none⟩) (Kd.kg (p:=⟨aU,4,none⟩) (Kd.kg (p:=⟨aU,3,none⟩) (Kd.kg (p:=⟨aU,2,none⟩) (Kd.kg (p:=⟨aU,1,none⟩) (Kd.kg (p:=⟨aU,0,none⟩) (Kd.vB cX.out bh.out (by decide)) (fun _ hk=>hk.2) (.int .u8 jP)) (fun _ hk=>hk.2) (.int .i64 lf)) (fun _ hk=>hk.2) (.int .i64 lJ)) (fun _ hk=>hk.2) (.int .i64 lg)) (fun _ hk=>hk.2) (.int .i64 mh)) (fun _ hk=>hk.2) (.bool mB)) (fun _ hk=>hk.2) (.slice mC kX.length mj)) (fun _ hk=>hk.2) (.string mQ)) (fun _ hk=>hk.2) (.string mW)) (fun _ hk=>hk.2) (.bool nu)) (fun _ hk=>hk.2) (.slice nv mo.length mX)) (fun _ hk=>hk.2) (.slice nQ mD.length ny)) (fun _ hk=>hk.2) (.int .i64 oO)) (fun _ h_ =>h_.1))):p:=h
theorem P5 {p:Prop} (h:p:=by exact (Kd.cu (Kd.au (p:=⟨aU,12,none⟩) (Kd.au (p:=⟨aU,11,none⟩) (Kd.au (p:=⟨aU,10,none⟩) (Kd.au (p:=⟨aU,9,none⟩) (Kd.au (p:=⟨aU,8,none⟩) (Kd.au (p:=⟨aU,7,none⟩) (Kd.au (p:=⟨aU,6,none⟩) (Kd.au (p:=⟨aU,5,none⟩) (Kd.au (p:=⟨aU,4,none⟩) (Kd.au (p:=⟨aU,3,none⟩) (Kd.au (p:=⟨aU,2,none⟩) (Kd.au (p:=⟨aU,1,none⟩) (Kd.au (p:=⟨aU,0,none⟩) (Kd.cj qY.out bh.out (by decide)) (fun _ hk=>hk.2) (.int .u8 jP)) (fun _ hk=>hk.2) (.int .i64 lf)) (fun _ hk=>hk.2) (.int .i64 lJ)) (fun _ hk=>hk.2) (.int .i64 lg)) (fun _ hk=>hk.2) (.int .i64 mh)) (fun _ hk=>hk.2) (.bool mB)) (fun _ hk=>hk.2) (.slice mC kX.length mj)) (fun _ hk=>hk.2) (.string mQ)) (fun _ hk=>hk.2) (.string mW)) (fun _ hk=>hk.2) (.bool nu)) (fun _ hk=>hk.2) (.slice nv mo.length mX)) (fun _ hk=>hk.2) (.slice nQ mD.length ny)) (fun _ hk=>hk.2) (.int .i64 oO)) (fun _ h_ =>h_.1))):p:=h
theorem Ja {p:Prop} (h:p:=by exact (Kd.cu (Kd.au (p:=⟨aU,12,none⟩) (Kd.au (p:=⟨aU,11,none⟩) (Kd.au (p:=⟨aU,10,none⟩) (Kd.au (p:=⟨aU,9,none⟩) (Kd.au (p:=⟨aU,8,none⟩) (Kd.au (p:=⟨aU,7,none⟩) (Kd.au (p:=⟨aU,6,none⟩) (Kd.au (p:=⟨aU,5,none⟩) (Kd.au (p:=⟨aU,4,none⟩) (Kd.au (p:=⟨aU,3,none⟩) (Kd.au (p:=⟨aU,2,none⟩) (Kd.au (p:=⟨aU,1,none⟩) (Kd.au (p:=⟨aU,0,none⟩) (Kd.cj qZ.out bh.out (by decide)) (fun _ hk=>hk.2) (.int .u8 jP)) (fun _ hk=>hk.2) (.int .i64 lf)) (fun _ hk=>hk.2) (.int .i64 lJ)) (fun _ hk=>hk.2) (.int .i64 lg)) (fun _ hk=>hk.2) (.int .i64 mh)) (fun _ hk=>hk.2) (.bool mB)) (fun _ hk=>hk.2) (.slice mC kX.length mj)) (fun _ hk=>hk.2) (.string mQ)) (fun _ hk=>hk.2) (.string mW)) (fun _ hk=>hk.2) (.bool nu)) (fun _ hk=>hk.2) (.slice nv mo.length mX)) (fun _ hk=>hk.2) (.slice nQ mD.length ny)) (fun _ hk=>hk.2) (.int .i64 oO)) (fun _ h_ =>h_.1))):p:=h
theorem Jb {p:Prop} (h:p:=by exact (Kd.cu (Kd.au (p:=⟨aU,12,none⟩) (Kd.au (p:=⟨aU,11,none⟩) (Kd.au (p:=⟨aU,10,none⟩) (Kd.au (p:=⟨aU,9,none⟩) (Kd.au (p:=⟨aU,8,none⟩) (Kd.au (p:=⟨aU,7,none⟩) (Kd.au (p:=⟨aU,6,none⟩) (Kd.au (p:=⟨aU,5,none⟩) (Kd.au (p:=⟨aU,4,none⟩) (Kd.au (p:=⟨aU,3,none⟩) (Kd.au (p:=⟨aU,2,none⟩) (Kd.au (p:=⟨aU,1,none⟩) (Kd.au (p:=⟨aU,0,none⟩) (Kd.cj q9.out bh.out (by decide)) (fun _ hk=>hk.2) (.int .u8 jP)) (fun _ hk=>hk.2) (.int .i64 lf)) (fun _ hk=>hk.2) (.int .i64 lJ)) (fun _ hk=>hk.2) (.int .i64 lg)) (fun _ hk=>hk.2) (.int .i64 mh)) (fun _ hk=>hk.2) (.bool mB)) (fun _ hk=>hk.2) (.slice mC kX.length mj)) (fun _ hk=>hk.2) (.string mQ)) (fun _ hk=>hk.2) (.string mW)) (fun _ hk=>hk.2) (.bool nu)) (fun _ hk=>hk.2) (.slice nv mo.length mX)) (fun _ hk=>hk.2) (.slice nQ mD.length ny)) (fun _ hk=>hk.2) (.int .i64 oO)) (fun _ h_ =>h_.1))):p:=h
theorem Jc {p:Prop} (h:p:=by exact (Kd.cu (Kd.au (p:=⟨aU,12,none⟩) (Kd.au (p:=⟨aU,11,none⟩) (Kd.au (p:=⟨aU,10,none⟩) (Kd.au (p:=⟨aU,9,none⟩) (Kd.au (p:=⟨aU,8,none⟩) (Kd.au (p:=⟨aU,7,none⟩) (Kd.au (p:=⟨aU,6,none⟩) (Kd.au (p:=⟨aU,5,none⟩) (Kd.au (p:=⟨aU,4,none⟩) (Kd.au (p:=⟨aU,3,none⟩) (Kd.au (p:=⟨aU,2,none⟩) (Kd.au (p:=⟨aU,1,none⟩) (Kd.au (p:=⟨aU,0,none⟩) (Kd.cj rq.out bh.out (by decide)) (fun _ hk=>hk.2) (.int .u8 jP)) (fun _ hk=>hk.2) (.int .i64 lf)) (fun _ hk=>hk.2) (.int .i64 lJ)) (fun _ hk=>hk.2) (.int .i64 lg)) (fun _ hk=>hk.2) (.int .i64 mh)) (fun _ hk=>hk.2) (.bool mB)) (fun _ hk=>hk.2) (.slice mC kX.length mj)) (fun _ hk=>hk.2) (.string mQ)) (fun _ hk=>hk.2) (.string mW)) (fun _ hk=>hk.2) (.bool nu)) (fun _ hk=>hk.2) (.slice nv mo.length mX)) (fun _ hk=>hk.2) (.slice nQ mD.length ny)) (fun _ hk=>hk.2) (.int .i64 oO)) (fun _ h_ =>h_.1))):p:=h
theorem Jd {p:Prop} (h:p:=by exact (Kd.cu (Kd.au (p:=⟨aU,12,none⟩) (Kd.au (p:=⟨aU,11,none⟩) (Kd.au (p:=⟨aU,10,none⟩) (Kd.au (p:=⟨aU,9,none⟩) (Kd.au (p:=⟨aU,8,none⟩) (Kd.au (p:=⟨aU,7,none⟩) (Kd.au (p:=⟨aU,6,none⟩) (Kd.au (p:=⟨aU,5,none⟩) (Kd.au (p:=⟨aU,4,none⟩) (Kd.au (p:=⟨aU,3,none⟩) (Kd.au (p:=⟨aU,2,none⟩) (Kd.au (p:=⟨aU,1,none⟩) (Kd.au (p:=⟨aU,0,none⟩) (Kd.cj ru.out bh.out (by decide)) (fun _ hk=>hk.2) (.int .u8 jP)) (fun _ hk=>hk.2) (.int .i64 lf)) (fun _ hk=>hk.2) (.int .i64 lJ)) (fun _ hk=>hk.2) (.int .i64 lg)) (fun _ hk=>hk.2) (.int .i64 mh)) (fun _ hk=>hk.2) (.bool mB)) (fun _ hk=>hk.2) (.slice mC kX.length mj)) (fun _ hk=>hk.2) (.string mQ)) (fun _ hk=>hk.2) (.string mW)) (fun _ hk=>hk.2) (.bool nu)) (fun _ hk=>hk.2) (.slice nv mo.length mX)) (fun _ hk=>hk.2) (.slice nQ mD.length ny)) (fun _ hk=>hk.2) (.int .i64 oO)) (fun _ h_ =>h_.1))):p:=h
theorem Je {p:Prop} (h:p:=by exact (Kd.cu (Kd.au (p:=⟨aU,12,none⟩) (Kd.au (p:=⟨aU,11,none⟩) (Kd.au (p:=⟨aU,10,none⟩) (Kd.au (p:=⟨aU,9,none⟩) (Kd.au (p:=⟨aU,8,none⟩) (Kd.au (p:=⟨aU,7,none⟩) (Kd.au (p:=⟨aU,6,none⟩) (Kd.au (p:=⟨aU,5,none⟩) (Kd.au (p:=⟨aU,4,none⟩) (Kd.au (p:=⟨aU,3,none⟩) (Kd.au (p:=⟨aU,2,none⟩) (Kd.au (p:=⟨aU,1,none⟩) (Kd.au (p:=⟨aU,0,none⟩) (Kd.cj ry.out bh.out (by decide)) (fun _ hk=>hk.2) (.int .u8 jP)) (fun _ hk=>hk.2) (.int .i64 lf)) (fun _ hk=>hk.2) (.int .i64 lJ)) (fun _ hk=>hk.2) (.int .i64 lg)) (fun _ hk=>hk.2) (.int .i64 mh)) (fun _ hk=>hk.2) (.bool mB)) (fun _ hk=>hk.2) (.slice mC kX.length mj)) (fun _ hk=>hk.2) (.string mQ)) (fun _ hk=>hk.2) (.string mW)) (fun _ hk=>hk.2) (.bool nu)) (fun _ hk=>hk.2) (.slice nv mo.length mX)) (fun _ hk=>hk.2) (.slice nQ mD.length ny)) (fun _ hk=>hk.2) (.int .i64 oO)) (fun _ h_ =>h_.1))):p:=h
theorem Jf {p:Prop} (h:p:=by exact (Kd.cu (Kd.au (p:=⟨aU,12,none⟩) (Kd.au (p:=⟨aU,11,none⟩) (Kd.au (p:=⟨aU,10,none⟩) (Kd.au (p:=⟨aU,9,none⟩) (Kd.au (p:=⟨aU,8,none⟩) (Kd.au (p:=⟨aU,7,none⟩) (Kd.au (p:=⟨aU,6,none⟩) (Kd.au (p:=⟨aU,5,none⟩) (Kd.au (p:=⟨aU,4,none⟩) (Kd.au (p:=⟨aU,3,none⟩) (Kd.au (p:=⟨aU,2,none⟩) (Kd.au (p:=⟨aU,1,none⟩) (Kd.au (p:=⟨aU,0,none⟩) (Kd.cj AQ.out bh.out (by decide)) (fun _ hk=>hk.2) (.int .u8 jP)) (fun _ hk=>hk.2) (.int .i64 lf)) (fun _ hk=>hk.2) (.int .i64 lJ)) (fun _ hk=>hk.2) (.int .i64 lg)) (fun _ hk=>hk.2) (.int .i64 mh)) (fun _ hk=>hk.2) (.bool mB)) (fun _ hk=>hk.2) (.slice mC kX.length mj)) (fun _ hk=>hk.2) (.string mQ)) (fun _ hk=>hk.2) (.string mW)) (fun _ hk=>hk.2) (.bool nu)) (fun _ hk=>hk.2) (.slice nv mo.length mX)) (fun _ hk=>hk.2) (.slice nQ mD.length ny)) (fun _ hk=>hk.2) (.int .i64 oO)) (fun _ h_ =>h_.1))):p:=h
theorem Jg {p:Prop} (h:p:=by exact (Kd.cu (Kd.au (p:=⟨aU,12,none⟩) (Kd.au (p:=⟨aU,11,none⟩) (Kd.au (p:=⟨aU,10,none⟩) (Kd.au (p:=⟨aU,9,none⟩) (Kd.au (p:=⟨aU,8,none⟩) (Kd.au (p:=⟨aU,7,none⟩) (Kd.au (p:=⟨aU,6,none⟩) (Kd.au (p:=⟨aU,5,none⟩) (Kd.au (p:=⟨aU,4,none⟩) (Kd.au (p:=⟨aU,3,none⟩) (Kd.au (p:=⟨aU,2,none⟩) (Kd.au (p:=⟨aU,1,none⟩) (Kd.au (p:=⟨aU,0,none⟩) (Kd.cj AR.out bh.out (by decide)) (fun _ hk=>hk.2) (.int .u8 jP)) (fun _ hk=>hk.2) (.int .i64 lf)) (fun _ hk=>hk.2) (.int .i64 lJ)) (fun _ hk=>hk.2) (.int .i64 lg)) (fun _ hk=>hk.2) (.int .i64 mh)) (fun _ hk=>hk.2) (.bool mB)) (fun _ hk=>hk.2) (.slice mC kX.length mj)) (fun _ hk=>hk.2) (.string mQ)) (fun _ hk=>hk.2) (.string mW)) (fun _ hk=>hk.2) (.bool nu)) (fun _ hk=>hk.2) (.slice nv mo.length mX)) (fun _ hk=>hk.2) (.slice nQ mD.length ny)) (fun _ hk=>hk.2) (.int .i64 oO)) (fun _ h_ =>h_.1))):p:=h
theorem Jh {p:Prop} (h:p:=by exact (Kd.cu (Kd.au (p:=⟨aU,12,none⟩) (Kd.au (p:=⟨aU,11,none⟩) (Kd.au (p:=⟨aU,10,none⟩) (Kd.au (p:=⟨aU,9,none⟩) (Kd.au (p:=⟨aU,8,none⟩) (Kd.au (p:=⟨aU,7,none⟩) (Kd.au (p:=⟨aU,6,none⟩) (Kd.au (p:=⟨aU,5,none⟩) (Kd.au (p:=⟨aU,4,none⟩) (Kd.au (p:=⟨aU,3,none⟩) (Kd.au (p:=⟨aU,2,none⟩) (Kd.au (p:=⟨aU,1,none⟩) (Kd.au (p:=⟨aU,0,none⟩) (Kd.cj AU.out bh.out (by decide)) (fun _ hk=>hk.2) (.int .u8 jP)) (fun _ hk=>hk.2) (.int .i64 lf)) (fun _ hk=>hk.2) (.int .i64 lJ)) (fun _ hk=>hk.2) (.int .i64 lg)) (fun _ hk=>hk.2) (.int .i64 mh)) (fun _ hk=>hk.2) (.bool mB)) (fun _ hk=>hk.2) (.slice mC kX.length mj)) (fun _ hk=>hk.2) (.string mQ)) (fun _ hk=>hk.2) (.string mW)) (fun _ hk=>hk.2) (.bool nu)) (fun _ hk=>hk.2) (.slice nv mo.length mX)) (fun _ hk=>hk.2) (.slice nQ mD.length ny)) (fun _ hk=>hk.2) (.int .i64 oO)) (fun _ h_ =>h_.1))):p:=h
theorem ay {p:Prop} (h:p:=by omega):p:=h
theorem ez {p:Prop} (h:p:=by intro w';go_simp;with_reducible rfl):p:=h
theorem bE {p:Prop} (h:p:=by decide):p:=h
theorem jy {p:Prop} (h:p:=by repeat (first|exact gH.refl _|apply gH.step)):p:=h
theorem oW {p:Prop} (h:p:=by simp only [Act.put,List.setIfInBounds_toArray,List.set_cons_zero,List.set_cons_succ,fU,gj];rfl):p:=h
theorem P6 {p:Prop} (h:p:=by exact (Kd.cu (Kd.au (p:=⟨aU,12,none⟩) (Kd.au (p:=⟨aU,11,none⟩) (Kd.au (p:=⟨aU,10,none⟩) (Kd.au (p:=⟨aU,9,none⟩) (Kd.au (p:=⟨aU,8,none⟩) (Kd.au (p:=⟨aU,7,none⟩) (Kd.au (p:=⟨aU,6,none⟩) (Kd.au (p:=⟨aU,5,none⟩) (Kd.au (p:=⟨aU,4,none⟩) (Kd.au (p:=⟨aU,3,none⟩) (Kd.au (p:=⟨aU,2,none⟩) (Kd.au (p:=⟨aU,1,none⟩) (Kd.au (p:=⟨aU,0,none⟩) (Kd.cj gX.out bh.out (by decide)) (fun _ hk=>hk.2) (.int .u8 jP)) (fun _ hk=>hk.2) (.int .i64 lf)) (fun _ hk=>hk.2) (.int .i64 lJ)) (fun _ hk=>hk.2) (.int .i64 lg)) (fun _ hk=>hk.2) (.int .i64 mh)) (fun _ hk=>hk.2) (.bool mB)) (fun _ hk=>hk.2) (.slice mC kX.length mj)) (fun _ hk=>hk.2) (.string mQ)) (fun _ hk=>hk.2) (.string mW)) (fun _ hk=>hk.2) (.bool nu)) (fun _ hk=>hk.2) (.slice nv mo.length mX)) (fun _ hk=>hk.2) (.slice nQ mD.length ny)) (fun _ hk=>hk.2) (.int .i64 oO)) (fun _ h_ =>h_.1))):p:=h
theorem P7 {p:Prop} (h:p:=by exact (Kd.cu (Kd.au (p:=⟨aU,12,none⟩) (Kd.au (p:=⟨aU,11,none⟩) (Kd.au (p:=⟨aU,10,none⟩) (Kd.au (p:=⟨aU,9,none⟩) (Kd.au (p:=⟨aU,8,none⟩) (Kd.au (p:=⟨aU,7,none⟩) (Kd.au (p:=⟨aU,6,none⟩) (Kd.au (p:=⟨aU,5,none⟩) (Kd.au (p:=⟨aU,4,none⟩) (Kd.au (p:=⟨aU,3,none⟩) (Kd.au (p:=⟨aU,2,none⟩) (Kd.au (p:=⟨aU,1,none⟩) (Kd.au (p:=⟨aU,0,none⟩) (Kd.cj fX.out bh.out (by decide)) (fun _ hk=>hk.2) (.int .u8 jP)) (fun _ hk=>hk.2) (.int .i64 lf)) (fun _ hk=>hk.2) (.int .i64 lJ)) (fun _ hk=>hk.2) (.int .i64 lg)) (fun _ hk=>hk.2) (.int .i64 mh)) (fun _ hk=>hk.2) (.bool mB)) (fun _ hk=>hk.2) (.slice mC kX.length mj)) (fun _ hk=>hk.2) (.string mQ)) (fun _ hk=>hk.2) (.string mW)) (fun _ hk=>hk.2) (.bool nu)) (fun _ hk=>hk.2) (.slice nv mo.length mX)) (fun _ hk=>hk.2) (.slice nQ mD.length ny)) (fun _ hk=>hk.2) (.int .i64 oO)) (fun _ h_ =>h_.1))):p:=h
theorem P8 {p:Prop} (h:p:=by exact (Kd.cu (Kd.au (p:=⟨aU,12,none⟩) (Kd.au (p:=⟨aU,11,none⟩) (Kd.au (p:=⟨aU,10,none⟩) (Kd.au (p:=⟨aU,9,none⟩) (Kd.au (p:=⟨aU,8,none⟩) (Kd.au (p:=⟨aU,7,none⟩) (Kd.au (p:=⟨aU,6,none⟩) (Kd.au (p:=⟨aU,5,none⟩) (Kd.au (p:=⟨aU,4,none⟩) (Kd.au (p:=⟨aU,3,none⟩) (Kd.au (p:=⟨aU,2,none⟩) (Kd.au (p:=⟨aU,1,none⟩) (Kd.au (p:=⟨aU,0,none⟩) (Kd.cj gY.out bh.out (by decide)) (fun _ hk=>hk.2) (.int .u8 jP)) (fun _ hk=>hk.2) (.int .i64 lf)) (fun _ hk=>hk.2) (.int .i64 lJ)) (fun _ hk=>hk.2) (.int .i64 lg)) (fun _ hk=>hk.2) (.int .i64 mh)) (fun _ hk=>hk.2) (.bool mB)) (fun _ hk=>hk.2) (.slice mC kX.length mj)) (fun _ hk=>hk.2) (.string mQ)) (fun _ hk=>hk.2) (.string mW)) (fun _ hk=>hk.2) (.bool nu)) (fun _ hk=>hk.2) (.slice nv mo.length mX)) (fun _ hk=>hk.2) (.slice nQ mD.length ny)) (fun _ hk=>hk.2) (.int .i64 oO)) (fun _ h_ =>h_.1))):p:=h
theorem P9 {p:Prop} (h:p:=by exact (Kd.cu (Kd.au (p:=⟨bN,12,none⟩) (Kd.au (p:=⟨bN,11,none⟩) (Kd.au (p:=⟨bN,10,none⟩) (Kd.au (p:=⟨bN,9,none⟩) (Kd.au (p:=⟨bN,8,none⟩) (Kd.au (p:=⟨bN,7,none⟩) (Kd.au (p:=⟨bN,6,none⟩) (Kd.au (p:=⟨bN,5,none⟩) (Kd.au (p:=⟨bN,4,none⟩) (Kd.au (p:=⟨bN,3,none⟩) (Kd.au (p:=⟨bN,2,none⟩) (Kd.au (p:=⟨bN,1,none⟩) (Kd.au (p:=⟨bN,0,none⟩) (Kd.cj jd.out dY.out (by decide)) (fun _ hk=>hk.2) (.int .u8 nR)) (fun _ hk=>hk.2) (.int .i64 oP)) (fun _ hk=>hk.2) (.int .i64 oX)) (fun _ hk=>hk.2) (.int .i64 oY)) (fun _ hk=>hk.2) (.int .i64 pZ)) (fun _ hk=>hk.2) (.bool qi)) (fun _ hk=>hk.2) (.slice qQ qB.length qR)) (fun _ hk=>hk.2) (.string qT)) (fun _ hk=>hk.2) (.string rQ)) (fun _ hk=>hk.2) (.bool sx)) (fun _ hk=>hk.2) (.slice uw sX.length ux)) (fun _ hk=>hk.2) (.slice uD uy.length uE)) (fun _ hk=>hk.2) (.int .i64 uF)) (fun _ h_ =>h_.1))):p:=h
theorem Qa {p:Prop} (h:p:=by exact (Kd.cu (Kd.au (p:=⟨gp,8,none⟩) (Kd.au (p:=⟨gp,7,none⟩) (Kd.au (p:=⟨gp,6,none⟩) (Kd.au (p:=⟨gp,5,none⟩) (Kd.au (p:=⟨gp,4,none⟩) (Kd.au (p:=⟨gp,3,none⟩) (Kd.au (p:=⟨gp,2,none⟩) (Kd.au (p:=⟨gp,1,none⟩) (Kd.au (p:=⟨gp,0,none⟩) (Kd.cj z8.out eI.out (by decide)) (fun _ hk=>hk.2) (.int .i64 ((av bn cy).f0))) (fun _ hk=>hk.2) (.bool ((av bn cy).f1.f0))) (fun _ hk=>hk.2) (.slice nV ((av bn cy).f1.f1).length nW)) (fun _ hk=>hk.2) (.string ((av bn cy).f1.f2.f0))) (fun _ hk=>hk.2) (.string ((av bn cy).f1.f2.f1))) (fun _ hk=>hk.2) (.bool ((av bn cy).f1.f2.f2))) (fun _ hk=>hk.2) (.slice rO ((av bn cy).f2).length rP)) (fun _ hk=>hk.2) (.slice sV ((av bn cy).f3).length sW)) (fun _ hk=>hk.2) (.int .i64 ((av bn cy).f4))) (fun _ h_ =>h_.1))):p:=h
theorem nX {p:Prop} (h:p:=by have:=World.block_lt_of_cell? _ _ fG;rwa [add_block] at this):p:=h
theorem lq {p:Prop} (h:p:=by repeat ((with_reducible exact HK.out))):p:=h
theorem iQ {p:Prop} (h:p:=by exact Kd.Cw _ _ _ _ _):p:=h
theorem Ji {p:Prop} (h:p:=by rw [hg];exact Nat.ne_of_lt (fu (g:=bA) (o:= .cells #[.int .i64 gy,.bool gD,.slice fy eA.length fA,.string gW,.string ig,.bool iq,.slice (some ⟨lu,0,none⟩) fk.length fJ,.slice fS eG.length fT,.int .i64 (wrap64 (a2))] 34 (0,0)) (by exact aV.out))):p:=h
theorem Jj {p:Prop} (h:p:=by rw [hg];exact Nat.ne_of_gt (fu (g:=bA) (o:= .cells #[.int .i64 gy,.bool gD,.slice fy eA.length fA,.string gW,.string ig,.bool iq,.slice (some ⟨lu,0,none⟩) fk.length fJ,.slice fS eG.length fT,.int .i64 (wrap64 (a2))] 34 (0,0)) (by exact aV.out))):p:=h
theorem gI {p:Prop} (h:p:=by exact aV.out):p:=h
theorem zl {p:Prop} (h:p:=by repeat ((with_reducible first|exact HB.out|refine dN ?_ aa0.out|refine dN ?_ AV.out))):p:=h
theorem uG {p:Prop} (h:p:=by repeat ((with_reducible first|exact HB.out|refine dN ?_ aa1.out))):p:=h
theorem rR {p:Prop} (h:p:=by (with_reducible repeat (apply Kd.j6));exact eJ.out):p:=h
theorem Qb {p:Prop} (h:p:=by refine aN ?_ fK.out _;refine aN ?_ fK.out _;refine aN ?_ fK.out _;refine aN ?_ fK.out _;refine aN ?_ fK.out _;refine aN ?_ fK.out _;refine aN ?_ fK.out _;refine aN ?_ fK.out _;refine aN ?_ fK.out _;refine aN ?_ fK.out _;refine aN ?_ fK.out _;refine aN ?_ fK.out _;refine aN ?_ fK.out _;exact aV.out):p:=h
theorem mE {p:Prop} (h:p:=by repeat (exact gH.refl _)):p:=h
theorem Qc {p:Prop} (h:p:=by exact Kd.kB (Kd.kg (p:=⟨cJ,1,none⟩) (Kd.kg (p:=⟨cJ,0,none⟩) (Kd.vB aa2.out dz.out (by decide)) (fun _ hk=>hk.2) (.int .i64 oZ)) (fun _ hk=>hk.2) (.slice rS nY.length rT)) (fun _ hk=>⟨hk.1.1.1.1.1.1.1.1.1.1.1.1.1.1.2,⟨hk.1.1.1.1.1.1.1.1.1.1.1.1.1.2,⟨hk.1.1.1.1.1.1.1.1.1.1.1.1.2,⟨hk.1.1.1.1.2,⟨hk.1.1.1.2,⟨hk.1.1.2,hk.1.2⟩⟩⟩⟩⟩⟩)):p:=h
theorem lA {p:Prop} (h:p:=by have:=sw.out;omega):p:=h
theorem rU {p:Prop} (h:p:=by repeat ((with_reducible exact rz.out))):p:=h
theorem jz {p:Prop} (h:p:=by exact ak.out):p:=h
theorem sY {p:Prop} (h:p:=by repeat ((with_reducible exact nZ.out))):p:=h
theorem sZ {p:Prop} (h:p:=by repeat ((with_reducible exact n7.out))):p:=h
theorem td {p:Prop} (h:p:=by repeat ((with_reducible exact n9.out))):p:=h
theorem tj {p:Prop} (h:p:=by repeat ((with_reducible exact oa.out))):p:=h
theorem wN {p:Prop} (h:p:=by rw [hg];exact Nat.ne_of_lt (fu (by exact bw.out))):p:=h
theorem wO {p:Prop} (h:p:=by rw [hg];exact Nat.ne_of_gt (fu (by exact bw.out))):p:=h
theorem Qd {p:Prop} (h:p:=by refine aN ?_ kr.out _;refine aN ?_ kr.out _;refine aN ?_ kr.out _;refine aN ?_ kr.out _;refine aN ?_ kr.out _;refine aN ?_ kr.out _;refine aN ?_ kr.out _;refine aN ?_ kr.out _;refine aN ?_ kr.out _;exact sy.out):p:=h
theorem wP {p:Prop} (h:p:=by rintro w' ⟨s0,s1,s2⟩;go_simp;with_reducible rfl):p:=h
theorem jQ {p:Prop} (h:p:=by exact dz.out):p:=h
theorem uH {p:Prop} (h:p:=by repeat ((with_reducible exact oc.out))):p:=h
theorem uI {p:Prop} (h:p:=by repeat ((with_reducible exact og.out))):p:=h
theorem wQ {p:Prop} (h:p:=by exact bw.out):p:=h
theorem cO {p:Prop} (h:p:=by simp):p:=h
theorem Jk {p:Prop} (h:p:=by (try simp only [List.map_toArray,List.map_cons,List.map_nil]);(rw [show iA.length=fk.length from (Kd.aZ fY.out).1.symm]<;>rfl)):p:=h
theorem Qe {p:Prop} (h:p:=by rw [hg];exact Nat.ne_of_lt (fu (g:=cB) (o:= .cells #[.int .i64 t306,.bool t307,.slice lU t308.length lV,.string t311,.string t312,.bool t313,.slice (some ⟨nk,0,none⟩) t314.length jr,.slice mq t317.length mz,.int .i64 t320] 34 (0,0)) (by exact cC.out))):p:=h
theorem Qf {p:Prop} (h:p:=by rw [hg];exact Nat.ne_of_gt (fu (g:=cB) (o:= .cells #[.int .i64 t306,.bool t307,.slice lU t308.length lV,.string t311,.string t312,.bool t313,.slice (some ⟨nk,0,none⟩) t314.length jr,.slice mq t317.length mz,.int .i64 t320] 34 (0,0)) (by exact cC.out))):p:=h
theorem Qg {p:Prop} (h:p:=by (with_reducible repeat (apply Kd.j6));exact Kd.cu (Kd.au (p:=⟨cJ,1,none⟩) (Kd.au (p:=⟨cJ,0,none⟩) (Kd.cj iU.out dz.out (by decide)) (fun _ hk=>hk.2) (.int .i64 uz)) (fun _ hk=>hk.2) (.slice xq rV.length xu)) (fun _ hk=>trivial)):p:=h
theorem zm {p:Prop} (h:p:=by rw [hg];exact Nat.ne_of_lt (fu (by exact bH.out))):p:=h
theorem zn {p:Prop} (h:p:=by rw [hg];exact Nat.ne_of_gt (fu (by exact bH.out))):p:=h
theorem kM {p:Prop} (h:p:=by exact je.out):p:=h
theorem Jl {p:Prop} (h:p:=by exact Kd.kB mF.out (fun _ hk=>⟨hk.1.1.1.1.1.2,⟨hk.1.1.1.1.2,⟨hk.1.1.1.2,⟨hk.1.1.2,⟨hk.2,hk.1.2⟩⟩⟩⟩⟩)):p:=h
theorem Jm {p:Prop} (h:p:=by exact Kd.kB xw.out (fun _ hk=>⟨hk.1.1.1.1.1.2,⟨hk.1.1.1.1.2,⟨hk.1.1.1.2,⟨hk.1.1.2,⟨hk.1.2,hk.2⟩⟩⟩⟩⟩)):p:=h
theorem nA {p:Prop} (h:p:=by exact gX.out):p:=h
theorem nB {p:Prop} (h:p:=by exact gY.out):p:=h
theorem tq {p:Prop} (h:p:=by exact of_eq_true (by assumption)):p:=h
theorem AX {p:Prop} (h:p:=by (with_reducible repeat (refine nK ?_ _));exact bw.out):p:=h
theorem AY {p:Prop} (h:p:=by (with_reducible repeat (refine nK ?_ _));exact bH.out):p:=h
theorem zo {p:Prop} (h:p:=by exact bH.out):p:=h
theorem lW {p:Prop} (h:p:=by exact iE.out):p:=h
theorem lX {p:Prop} (h:p:=by exact fY.out):p:=h
theorem lY {p:Prop} (h:p:=by exact iF.out):p:=h
theorem lB {p:Prop} (h:p:=by exact tu.out):p:=h
theorem Qh {p:Prop} (h:p:=by exact Kd.cu (Kd.au (p:=⟨cJ,1,none⟩) (Kd.au (p:=⟨cJ,0,none⟩) (Kd.cj gX.out dz.out (by decide)) (fun _ hk=>hk.2) (.int .i64 oZ)) (fun _ hk=>hk.2) (.slice rS nY.length rT)) (fun _ hk=>hk.1.2)):p:=h
theorem Qi {p:Prop} (h:p:=by exact Kd.cu (Kd.au (p:=⟨cJ,1,none⟩) (Kd.au (p:=⟨cJ,0,none⟩) (Kd.cj fX.out dz.out (by decide)) (fun _ hk=>hk.2) (.int .i64 oZ)) (fun _ hk=>hk.2) (.slice rS nY.length rT)) (fun _ hk=>hk.1.2)):p:=h
theorem Qj {p:Prop} (h:p:=by exact Kd.cu (Kd.au (p:=⟨cJ,1,none⟩) (Kd.au (p:=⟨cJ,0,none⟩) (Kd.cj gY.out dz.out (by decide)) (fun _ hk=>hk.2) (.int .i64 oZ)) (fun _ hk=>hk.2) (.slice rS nY.length rT)) (fun _ hk=>hk.1.2)):p:=h
theorem Qk {p:Prop} (h:p:=by exact Kd.cu (Kd.au (p:=⟨cJ,1,none⟩) (Kd.au (p:=⟨cJ,0,none⟩) (Kd.cj AQ.out dz.out (by decide)) (fun _ hk=>hk.2) (.int .i64 oZ)) (fun _ hk=>hk.2) (.slice rS nY.length rT)) (fun _ hk=>hk.1.1.1.2)):p:=h
theorem Ql {p:Prop} (h:p:=by exact Kd.cu (Kd.au (p:=⟨cJ,1,none⟩) (Kd.au (p:=⟨cJ,0,none⟩) (Kd.cj AR.out dz.out (by decide)) (fun _ hk=>hk.2) (.int .i64 oZ)) (fun _ hk=>hk.2) (.slice rS nY.length rT)) (fun _ hk=>hk.1.1.1.2)):p:=h
theorem Qm {p:Prop} (h:p:=by exact Kd.cu (Kd.au (p:=⟨cJ,1,none⟩) (Kd.au (p:=⟨cJ,0,none⟩) (Kd.cj AU.out dz.out (by decide)) (fun _ hk=>hk.2) (.int .i64 oZ)) (fun _ hk=>hk.2) (.slice rS nY.length rT)) (fun _ hk=>hk.1.1.1.2)):p:=h
theorem om {p:Prop} (h:p:=by exact fX.out):p:=h
theorem Qn {p:Prop} (h:p:=by exact (Kd.cu (Kd.au (p:=⟨cJ,1,none⟩) (Kd.au (p:=⟨cJ,0,none⟩) (Kd.cj qY.out dz.out (by decide)) (fun _ hk=>hk.2) (.int .i64 oZ)) (fun _ hk=>hk.2) (.slice rS nY.length rT)) (fun _ h_ =>h_.1))):p:=h
theorem Qo {p:Prop} (h:p:=by exact (Kd.cu (Kd.au (p:=⟨cJ,1,none⟩) (Kd.au (p:=⟨cJ,0,none⟩) (Kd.cj qZ.out dz.out (by decide)) (fun _ hk=>hk.2) (.int .i64 oZ)) (fun _ hk=>hk.2) (.slice rS nY.length rT)) (fun _ h_ =>h_.1))):p:=h
theorem Qp {p:Prop} (h:p:=by exact (Kd.cu (Kd.au (p:=⟨cJ,1,none⟩) (Kd.au (p:=⟨cJ,0,none⟩) (Kd.cj q9.out dz.out (by decide)) (fun _ hk=>hk.2) (.int .i64 oZ)) (fun _ hk=>hk.2) (.slice rS nY.length rT)) (fun _ h_ =>h_.1))):p:=h
theorem Qq {p:Prop} (h:p:=by exact (Kd.cu (Kd.au (p:=⟨cJ,1,none⟩) (Kd.au (p:=⟨cJ,0,none⟩) (Kd.cj rq.out dz.out (by decide)) (fun _ hk=>hk.2) (.int .i64 oZ)) (fun _ hk=>hk.2) (.slice rS nY.length rT)) (fun _ h_ =>h_.1))):p:=h
theorem Qr {p:Prop} (h:p:=by exact (Kd.cu (Kd.au (p:=⟨cJ,1,none⟩) (Kd.au (p:=⟨cJ,0,none⟩) (Kd.cj ru.out dz.out (by decide)) (fun _ hk=>hk.2) (.int .i64 oZ)) (fun _ hk=>hk.2) (.slice rS nY.length rT)) (fun _ h_ =>h_.1))):p:=h
theorem Qs {p:Prop} (h:p:=by exact (Kd.cu (Kd.au (p:=⟨cJ,1,none⟩) (Kd.au (p:=⟨cJ,0,none⟩) (Kd.cj ry.out dz.out (by decide)) (fun _ hk=>hk.2) (.int .i64 oZ)) (fun _ hk=>hk.2) (.slice rS nY.length rT)) (fun _ h_ =>h_.1))):p:=h
theorem Qt {p:Prop} (h:p:=by exact Kd.cu (Kd.au (p:=⟨cJ,1,none⟩) (Kd.au (p:=⟨cJ,0,none⟩) (Kd.cj tu.out dz.out (by decide)) (fun _ hk=>hk.2) (.int .i64 oZ)) (fun _ hk=>hk.2) (.slice rS nY.length rT)) (fun _ hk=>trivial)):p:=h
theorem CQ {p:Prop} (h:p:=by rintro w' ⟨s0,s1,s2,s3,s4,s5,s6,s7,s8⟩;go_simp;with_reducible rfl):p:=h
theorem zq {p:Prop} (h:p:=by show w.heap.size≤w.heap.size + 1 + 1;omega):p:=h
theorem CR {p:Prop} (h:p:=by repeat ((with_reducible first|exact HB.out|refine dN ?_ aa3.out))):p:=h
theorem o7 {p:Prop} (h:p:=by exact cX.out):p:=h
theorem Qu {p:Prop} (h:p:=by refine aH (cs:=#[.int .i64 oZ,.slice (some AZ) bz.length Jn]) ?_ 1 _ rfl;refine aH (cs:=#[.int .i64 iW,.slice (some AZ) bz.length Jn]) ?_ 0 _ rfl;exact dz.out):p:=h
theorem o8 {p:Prop} (h:p:=by assumption):p:=h
theorem nC {p:Prop} (h:p:=by exact az.out):p:=h
theorem nD {p:Prop} (h:p:=by exact iU.out):p:=h
theorem CS {p:Prop} (h:p:=by repeat ((with_reducible first|exact rz.out|apply dZ.drewN))):p:=h
theorem CT {p:Prop} (h:p:=by rw [← HG2.out];simp only [uJ];rw [HX.out,if_pos (by omega)]):p:=h
theorem CU {p:Prop} (h:p:=by repeat ((with_reducible first|exact HK.out|apply Ba))):p:=h
theorem CV {p:Prop} (h:p:=by simp only [Bb,Act.put,List.setIfInBounds_toArray,List.set_cons_zero,List.set_cons_succ]):p:=h
theorem mL {p:Prop} (h:p:=by exact l5.out):p:=h
theorem Ag {p:Prop} (h:p:=by (with_reducible repeat (apply Kd.j6));exact iO.out):p:=h
theorem CW {p:Prop} (h:p:=by rw [← HG2.out];simp only [uJ];rw [HX.out,if_neg (by omega),if_neg (by omega)]):p:=h
theorem CX {p:Prop} (h:p:=by rw [← HG2.out];simp only [uJ];rw [HX.out,if_neg (by omega),if_pos (by omega)]):p:=h
theorem rA {p:Prop} (h:p:=by exact cC.out):p:=h
theorem vC {p:Prop} (h:p:=by (rw [add_block];exact Hl)):p:=h
theorem vD {p:Prop} (h:p:=by (rw [add_block];exact Ho)):p:=h
theorem vE {p:Prop} (h:p:=by (rw [add_block];exact Hp)):p:=h
theorem vF {p:Prop} (h:p:=by (rw [add_block];exact Hq)):p:=h
theorem CY {p:Prop} (h:p:=by repeat ((with_reducible first|exact HB.out|refine dN ?_ agw.out))):p:=h
theorem vG {p:Prop} (h:p:=by (rw [add_block];exact KB)):p:=h
theorem vH {p:Prop} (h:p:=by (rw [add_block];exact KC)):p:=h
theorem vI {p:Prop} (h:p:=by (rw [add_block];exact KD)):p:=h
theorem vJ {p:Prop} (h:p:=by (rw [add_block];exact KE)):p:=h
theorem vK {p:Prop} (h:p:=by (rw [add_block];exact KF)):p:=h
theorem vL {p:Prop} (h:p:=by (rw [add_block];exact KG)):p:=h
theorem vM {p:Prop} (h:p:=by (rw [add_block];exact KH)):p:=h
theorem vN {p:Prop} (h:p:=by (rw [add_block];exact KI)):p:=h
theorem vO {p:Prop} (h:p:=by (rw [add_block];exact KJ)):p:=h
theorem vP {p:Prop} (h:p:=by (rw [add_block];exact KL)):p:=h
theorem oo {p:Prop} (h:p:=by exact jd.out):p:=h
theorem oq {p:Prop} (h:p:=by exact lK.out):p:=h
theorem ot {p:Prop} (h:p:=by exact gF.out):p:=h
theorem ou {p:Prop} (h:p:=by exact lM.out):p:=h
theorem xx {p:Prop} (h:p:=by exact kH.out):p:=h
theorem ow {p:Prop} (h:p:=by exact cF.out):p:=h
theorem pL {p:Prop} (h:p:=by exact sy.out):p:=h
theorem tv {p:Prop} (h:p:=by unfold wrap64;omega):p:=h
theorem CZ {p:Prop} (h:p:=by rw [hg];exact Nat.ne_of_lt (fu (by exact kH.out))):p:=h
theorem C0 {p:Prop} (h:p:=by rw [hg];exact Nat.ne_of_gt (fu (by exact kH.out))):p:=h
theorem qj {p:Prop} (h:p:=by exact z8.out):p:=h
theorem xy {p:Prop} (h:p:=by rw [List.length_take];omega):p:=h
theorem KM {p:Prop} (h:p:=by repeat ((with_reducible first|exact HB.out|apply eF|refine dN ?_ (dZ.ge rz.out)))):p:=h
theorem rB {p:Prop} (h:p:=by exact fH.out):p:=h
theorem rC {p:Prop} (h:p:=by exact mG.out):p:=h
theorem rD {p:Prop} (h:p:=by exact mF.out):p:=h
theorem KN {p:Prop} (h:p:=by rw [hw];exact (by repeat ((with_reducible first|exact HB.out|refine dN ?_ agx.out)))):p:=h
theorem vQ {p:Prop} (h:p:=by exact o9.out):p:=h
theorem vR {p:Prop} (h:p:=by exact pg.out):p:=h
theorem vS {p:Prop} (h:p:=by exact pq.out):p:=h
theorem KO {p:Prop} (h:p:=by have:=sw.out;have:=O3.out;have:=HK3.out;have:=Ug.out;have:=acQ.out;omega):p:=h
theorem C2 {p:Prop} (h:p:=by intro k hk;simp [Value.ownBlock] at hk;omega):p:=h
theorem tA {p:Prop} (h:p:=by exact qC.out):p:=h
theorem tB {p:Prop} (h:p:=by exact qD.out):p:=h
theorem tC {p:Prop} (h:p:=by exact dQ.out):p:=h
theorem KP {p:Prop} (h:p:=by repeat ((with_reducible first|exact rz.out|apply dZ.drewN|apply dZ.agy))):p:=h
theorem KQ {p:Prop} (h:p:=by rintro w' ⟨s0,s1,s2,s3,s4,s5,s6,s7,s8,s9,s10⟩;go_simp;with_reducible rfl):p:=h
theorem xz {p:Prop} (h:p:=by rw [HL.out];exact hlt):p:=h
theorem KR {p:Prop} (h:p:=by repeat ((with_reducible first|exact HK.out|apply dW.agz|apply Ba))):p:=h
theorem KS {p:Prop} (h:p:=by refine aN ?_ cR.out _;refine aN ?_ cR.out _;exact aV.out):p:=h
theorem KT {p:Prop} (h:p:=by refine aN ?_ kN.out _;refine aN ?_ kN.out _;exact bh.out):p:=h
theorem KU {p:Prop} (h:p:=by repeat ((with_reducible first|exact HB.out|refine dN ?_ aa4.out))):p:=h
theorem KV {p:Prop} (h:p:=by repeat ((with_reducible first|exact HB.out|refine dN ?_ AV.out))):p:=h
theorem KW {p:Prop} (h:p:=by repeat ((with_reducible first|exact HB.out|refine dN ?_ agA.out))):p:=h
theorem KX {p:Prop} (h:p:=by repeat ((with_reducible first|exact HB.out|refine dN ?_ zM.out))):p:=h
theorem vT {p:Prop} (h:p:=by exact qd.out):p:=h
theorem vU {p:Prop} (h:p:=by exact dP.out):p:=h
theorem vV {p:Prop} (h:p:=by exact bh.out):p:=h
theorem KY {p:Prop} (h:p:=by simp only [Bool.not_true,Bool.false_eq_true,if_false];rw [hw];exact hr):p:=h
theorem KZ {p:Prop} (h:p:=by (try simp only [List.map_toArray,List.map_cons,List.map_nil]);done):p:=h
theorem K0 {p:Prop} (h:p:=by rw [HK.out (by unfold Hr;rw [if_neg (by omega)])];exact HR.out):p:=h
theorem tD {p:Prop} (h:p:=by simp;omega):p:=h
theorem xA {p:Prop} (h:p:=by rw [HZ.out];rfl):p:=h
theorem K1 {p:Prop} (h:p:=by (with_reducible repeat (refine nK ?_ _));exact az.out):p:=h
end Go.Proofs
