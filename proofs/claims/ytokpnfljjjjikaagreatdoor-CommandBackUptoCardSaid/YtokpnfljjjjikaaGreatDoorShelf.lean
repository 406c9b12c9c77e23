import Derived.Test.YtokpnfljjjjikaaGreatDoorZo
import Derived.Shelf.Strings.Builder1
import Derived.Shelf.Strings.Builder2
import Derived.Shelf.Strings.OnBuilder
import Derived.Shelf.Small.Utf8
import Derived.Shelf.Small.Strs
import Derived.Shelf.Strings.BuilderF
import Derived.Shelf.LaysM
import Derived.Shelf.Strconv.Clone
import Derived.Shelf.Strconv.SyntaxError
import Derived.Shelf.LaysC
import Derived.Shelf.Strconv.ToError
import Derived.Shelf.Strconv.RangeError
import Derived.Shelf.Strconv.ToErrorRange
import Derived.Shelf.Strings.Search1
import Derived.Shelf.Strings.Search2
import Derived.Shelf.Strings.Search3
import Derived.Shelf.Strings.Cut
import Derived.Shelf.Strings.Count
import Derived.Shelf.Strings.Shaped
import Derived.Shelf.Strings.Prefix
import Derived.Shelf.Strings.Split
import Derived.Shelf.Strings.Replace
import Derived.Shelf.Strings.SplitShaped
import Derived.Shelf.Unicode.Latin
import Derived.Shelf.Unicode.Decode
import Derived.Shelf.Strings.RuneCount
import Derived.Shelf.Strings.Explode
import Derived.Shelf.Bits.Mul64
import Derived.Shelf.Strings.Repeat
import Derived.Shelf.Unicode.DecodeSlow
import Derived.Shelf.Unicode.CaseLookup
import Derived.Shelf.Unicode.CaseConvert
import Derived.Shelf.Unicode.CaseTo
import Derived.Shelf.Unicode.CaseLaid
import Derived.Test.YtokpnfljjjjikaaGreatDoorProg
namespace Go.Proofs
open Go.Shelf
def Tryz.Co:Go.Shelf.Ren:=⟨fun| 156=>66| 165=>52| 166=>53| 169=>55| 240=>113| 241=>114| 276=>155| 277=>156|n=>n,fun| 31=>28| 9=>9| 3=>3| 4=>4| 0=>0| 20=>20| 72=>72| 76=>76| 70=>70| 37=>23| 75=>75| 127=>122| 164=>155| 5=>5| 80=>79|n=>n,fun|n=>n⟩
theorem Tryz.Xf:Go.Proofs.Lays.n156 Tryz.prog Tryz.Co:={
 mixed:=by kernel_rfl
 f156:=Tryz.func66.trans (congrArg some au)
 f165:=Tryz.func52.trans (congrArg some au)
 f166:=Tryz.func53.trans (congrArg some au)
 f169:=Tryz.func55.trans (congrArg some au)
 f240:=Tryz.func113.trans (congrArg some au)
 f241:=Tryz.func114.trans (congrArg some au)
 f276:=Tryz.func155.trans (congrArg some au)
 f277:=Tryz.func156.trans (congrArg some au)
 t0:=Tryz.underlying0
 a0:=Tryz.isAgg0
 z0:=Tryz.sizeOf0
 v0:=Tryz.zeroValue0
 t3:=Tryz.underlying3
 a3:=Tryz.isAgg3
 z3:=Tryz.sizeOf3
 v3:=Tryz.zeroValue3
 t4:=Tryz.underlying4
 a4:=Tryz.isAgg4
 z4:=Tryz.sizeOf4
 v4:=Tryz.zeroValue4
 t9:=Tryz.underlying9
 a9:=Tryz.isAgg9
 z9:=Tryz.sizeOf9
 v9:=Tryz.zeroValue9
 t20:=Tryz.underlying20
 a20:=Tryz.isAgg20
 z20:=Tryz.sizeOf20
 v20:=Tryz.zeroValue20
 t31:=Tryz.underlying28
 a31:=Tryz.isAgg28
 z31:=Tryz.sizeOf28
 v31:=Tryz.zeroValue28
 t37:=Tryz.underlying23
 a37:=Tryz.isAgg23
 z37:=Tryz.sizeOf23
 v37:=Tryz.zeroValue23
 t70:=Tryz.underlying70
 a70:=Tryz.isAgg70
 z70:=Tryz.sizeOf70
 v70:=Tryz.zeroValue70
 t72:=Tryz.underlying72
 a72:=Tryz.isAgg72
 z72:=Tryz.sizeOf72
 v72:=Tryz.zeroValue72
 t75:=Tryz.underlying75
 a75:=Tryz.isAgg75
 z75:=Tryz.sizeOf75
 v75:=Tryz.zeroValue75
 t76:=Tryz.underlying76
 a76:=Tryz.isAgg76
 z76:=Tryz.sizeOf76
 v76:=Tryz.zeroValue76
 t127:=Tryz.underlying122
 a127:=Tryz.isAgg122
 z127:=Tryz.sizeOf122
 v127:=Tryz.zeroValue122
 t164:=Tryz.underlying155
 a164:=Tryz.isAgg155
 z164:=Tryz.sizeOf155
 v164:=Tryz.zeroValue155}
theorem Tryz.zR:Builder.Extra Tryz.prog Tryz.Co:={
 sizeBuilder:=by kernel_rfl
 liesBuilder:=by kernel_rfl
 t5:=Tryz.underlying5
 a5:=Tryz.isAgg5
 z5:=Tryz.sizeOf5
 v5:=Tryz.zeroValue5
 infoByte:=by kernel_rfl
 cellsByte:=by kernel_rfl
 sizeByte:=by kernel_rfl
 neB5:=by decide}
open Go.RowKit in
theorem Tryz.strings_Join (bk o c:Nat) (xs:List ByteArray) (sep:ByteArray) (w:World) (hcells:∀ (j:Nat) x,xs[j]? =some x→w.cell? ⟨bk,o + j,none⟩=some (.string x)) (hbk:bk < w.heap.size) (hN:xs.length≤140737488355328) (hcap:xs.length≤c) (hlen:(Lib.join (xs.map (·.data.toList)) sep.data.toList).length≤140737488355328):
 Calls Tryz.prog 66 #[.slice (some ⟨bk,o,none⟩) xs.length c,.string sep] w fun e w'=>e= .returned (.string ⟨(Lib.join (xs.map (·.data.toList)) sep.data.toList).toArray⟩)∧Below w.heap.size w w':=Any.strings_Join Tryz.Xf Tryz.zR bk o c xs sep w hcells hbk hN hcap hlen
def Tryz.Lx:Go.Shelf.Ren:=⟨fun| 137=>159| 217=>163| 266=>187|n=>n,fun| 9=>9| 5=>5| 3=>3|n=>n,fun|n=>n⟩
theorem Tryz.Xg:Go.Proofs.Lays.n137 Tryz.prog Tryz.Lx:={
 mixed:=by kernel_rfl
 f137:=Tryz.func159.trans (congrArg some au)
 f217:=Tryz.func163.trans (congrArg some au)
 f266:=Tryz.func187.trans (congrArg some au)
 t3:=Tryz.underlying3
 a3:=Tryz.isAgg3
 z3:=Tryz.sizeOf3
 v3:=Tryz.zeroValue3
 t5:=Tryz.underlying5
 a5:=Tryz.isAgg5
 z5:=Tryz.sizeOf5
 v5:=Tryz.zeroValue5
 t9:=Tryz.underlying9
 a9:=Tryz.isAgg9
 z9:=Tryz.sizeOf9
 v9:=Tryz.zeroValue9}
open Go.RowKit in
theorem Tryz.strings_IndexByte (s:ByteArray) (c:Int) (w:World):
 Calls Tryz.prog 159 #[.string s,.int .u8 c] w fun e w'=>e= .returned (.int .i64 (Lib.indexByte s.data.toList c.toNat.toUInt8))∧w'=w:=Any.strings_IndexByte Tryz.Xg s c w
def Tryz.IK:Go.Shelf.Ren:=⟨fun| 245=>132| 279=>171| 280=>172| 281=>173| 282=>174| 316=>189| 171=>191| 205=>190| 243=>201| 246=>211| 283=>219| 284=>220| 285=>221| 286=>222| 129=>224| 317=>223| 318=>225| 319=>226| 320=>227| 337=>228| 338=>229|n=>n,fun| 9=>9| 3=>3| 75=>75| 167=>162| 4=>4| 168=>164| 210=>192| 37=>23| 0=>0| 127=>122| 145=>214| 143=>212| 2=>2| 171=>234| 53=>99| 5=>5| 173=>237| 212=>240| 51=>117| 20=>20| 213=>241| 46=>67| 232=>244| 233=>245| 80=>79|n=>n,fun| 15=>5| 16=>6| 17=>7| 18=>8| 19=>9|n=>n⟩
theorem Tryz.Lz:Go.Proofs.LaysC.n245 Tryz.prog Tryz.IK:={
 mixed:=by kernel_rfl
 f129:=Tryz.func224.trans (congrArg some au)
 f171:=Tryz.func191.trans (congrArg some au)
 f205:=Tryz.func190.trans (congrArg some au)
 f243:=Tryz.func201.trans (congrArg some au)
 f245:=Tryz.func132.trans (congrArg some au)
 f246:=Tryz.func211.trans (congrArg some au)
 f279:=Tryz.func171.trans (congrArg some au)
 f280:=Tryz.func172.trans (congrArg some au)
 f281:=Tryz.func173.trans (congrArg some au)
 f282:=Tryz.func174.trans (congrArg some au)
 f283:=Tryz.func219.trans (congrArg some au)
 f284:=Tryz.func220.trans (congrArg some au)
 f285:=Tryz.func221.trans (congrArg some au)
 f286:=Tryz.func222.trans (congrArg some au)
 f316:=Tryz.func189.trans (congrArg some au)
 f317:=Tryz.func223.trans (congrArg some au)
 f318:=Tryz.func225.trans (congrArg some au)
 f319:=Tryz.func226.trans (congrArg some au)
 f320:=Tryz.func227.trans (congrArg some au)
 f337:=Tryz.func228.trans (congrArg some au)
 f338:=Tryz.func229.trans (congrArg some au)
 t0:=Tryz.underlying0
 a0:=Tryz.isAgg0
 z0:=Tryz.sizeOf0
 v0:=Tryz.zeroValue0
 t2:=Tryz.underlying2
 a2:=Tryz.isAgg2
 z2:=Tryz.sizeOf2
 v2:=Tryz.zeroValue2
 t3:=Tryz.underlying3
 a3:=Tryz.isAgg3
 z3:=Tryz.sizeOf3
 v3:=Tryz.zeroValue3
 t4:=Tryz.underlying4
 a4:=Tryz.isAgg4
 z4:=Tryz.sizeOf4
 v4:=Tryz.zeroValue4
 t5:=Tryz.underlying5
 a5:=Tryz.isAgg5
 z5:=Tryz.sizeOf5
 v5:=Tryz.zeroValue5
 t9:=Tryz.underlying9
 a9:=Tryz.isAgg9
 z9:=Tryz.sizeOf9
 v9:=Tryz.zeroValue9
 t20:=Tryz.underlying20
 a20:=Tryz.isAgg20
 z20:=Tryz.sizeOf20
 v20:=Tryz.zeroValue20
 t37:=Tryz.underlying23
 a37:=Tryz.isAgg23
 z37:=Tryz.sizeOf23
 v37:=Tryz.zeroValue23
 t46:=Tryz.underlying67
 a46:=Tryz.isAgg67
 z46:=Tryz.sizeOf67
 v46:=Tryz.zeroValue67
 t51:=Tryz.underlying117
 a51:=Tryz.isAgg117
 z51:=Tryz.sizeOf117
 v51:=Tryz.zeroValue117
 t53:=Tryz.underlying99
 a53:=Tryz.isAgg99
 z53:=Tryz.sizeOf99
 v53:=Tryz.zeroValue99
 t75:=Tryz.underlying75
 a75:=Tryz.isAgg75
 z75:=Tryz.sizeOf75
 v75:=Tryz.zeroValue75
 t127:=Tryz.underlying122
 a127:=Tryz.isAgg122
 z127:=Tryz.sizeOf122
 v127:=Tryz.zeroValue122
 t143:=Tryz.underlying212
 a143:=Tryz.isAgg212
 z143:=Tryz.sizeOf212
 v143:=Tryz.zeroValue212
 t145:=Tryz.underlying214
 a145:=Tryz.isAgg214
 z145:=Tryz.sizeOf214
 v145:=Tryz.zeroValue214
 t167:=Tryz.underlying162
 a167:=Tryz.isAgg162
 z167:=Tryz.sizeOf162
 v167:=Tryz.zeroValue162
 t168:=Tryz.underlying164
 a168:=Tryz.isAgg164
 z168:=Tryz.sizeOf164
 v168:=Tryz.zeroValue164
 t171:=Tryz.underlying234
 a171:=Tryz.isAgg234
 z171:=Tryz.sizeOf234
 v171:=Tryz.zeroValue234
 t173:=Tryz.underlying237
 a173:=Tryz.isAgg237
 z173:=Tryz.sizeOf237
 v173:=Tryz.zeroValue237
 t210:=Tryz.underlying192
 a210:=Tryz.isAgg192
 z210:=Tryz.sizeOf192
 v210:=Tryz.zeroValue192
 t212:=Tryz.underlying240
 a212:=Tryz.isAgg240
 z212:=Tryz.sizeOf240
 v212:=Tryz.zeroValue240
 t213:=Tryz.underlying241
 a213:=Tryz.isAgg241
 z213:=Tryz.sizeOf241
 t232:=Tryz.underlying244
 a232:=Tryz.isAgg244
 z232:=Tryz.sizeOf244
 v232:=Tryz.zeroValue244
 t233:=Tryz.underlying245
 a233:=Tryz.isAgg245
 z233:=Tryz.sizeOf245
 v233:=Tryz.zeroValue245
 g15:=by kernel_rfl
 g16:=by kernel_rfl
 g17:=by kernel_rfl
 g18:=by kernel_rfl
 g19:=by kernel_rfl
 t80:=Tryz.underlying79
 a80:=Tryz.isAgg79
 z80:=Tryz.sizeOf79
 v80:=Tryz.zeroValue79
 i0:=by kernel_rfl
 i2:=by kernel_rfl
 i3:=by kernel_rfl
 i4:=by kernel_rfl
 i5:=by kernel_rfl
 i9:=by kernel_rfl
 i20:=by kernel_rfl
 i37:=by kernel_rfl
 i46:=by kernel_rfl
 i51:=by kernel_rfl
 i53:=by kernel_rfl
 i75:=by kernel_rfl
 i80:=by kernel_rfl
 i127:=by kernel_rfl
 i143:=by kernel_rfl
 i145:=by kernel_rfl
 i167:=by kernel_rfl
 i168:=by kernel_rfl
 i171:=by kernel_rfl
 i173:=by kernel_rfl
 i210:=by kernel_rfl
 i212:=by kernel_rfl
 i232:=by kernel_rfl
 i233:=by kernel_rfl
 m15:=by kernel_rfl
 m16:=by kernel_rfl
 m17:=by kernel_rfl
 m18:=by kernel_rfl
 m19:=by kernel_rfl
 c0:=by kernel_rfl
 c2:=by kernel_rfl
 c3:=by kernel_rfl
 c4:=by kernel_rfl
 c5:=by kernel_rfl
 c9:=by kernel_rfl
 c20:=by kernel_rfl
 c37:=by kernel_rfl
 c46:=by kernel_rfl
 c51:=by kernel_rfl
 c53:=by kernel_rfl
 c75:=by kernel_rfl
 c80:=by kernel_rfl
 c127:=by kernel_rfl
 c143:=by kernel_rfl
 c145:=by kernel_rfl
 c167:=by kernel_rfl
 c168:=by kernel_rfl
 c171:=by kernel_rfl
 c173:=by kernel_rfl
 c210:=by kernel_rfl
 c212:=by kernel_rfl
 c213:=by kernel_rfl
 c232:=by kernel_rfl
 c233:=by kernel_rfl}
open Go.RowKit in
theorem Tryz.strconv_toError_syntax (fn s:ByteArray) (base bits:Int) (ev:Value) (w:World) (hlim:s.size≤281474976710656) (hv:w.cell? ⟨5,0,none⟩=some ev) (hev:ev= .nilIface∨∃ te pe,ev= .iface te pe):
 Calls Tryz.prog 132 #[.string fn,.string s,.int .i64 base,.int .i64 bits,.iface 162 (.int .i64 2)] w fun e w'=>∃ N,e= .returned (.iface 164 (.pointer (some ⟨N,0,none⟩)))∧w.heap.size≤N∧w'.heap[N]? =some (.cells #[.string fn,.string s,ev] 192 (0,0))∧Below w.heap.size w w':=Any.strconv_toError_syntax Tryz.Lz fn s base bits ev w hlim hv hev
open Go.RowKit in
theorem Tryz.strconv_toError_range (fn s:ByteArray) (base bits:Int) (ev:Value) (w:World) (hlim:s.size≤281474976710656) (hv:w.cell? ⟨6,0,none⟩=some ev) (hev:ev= .nilIface∨∃ te pe,ev= .iface te pe):
 Calls Tryz.prog 132 #[.string fn,.string s,.int .i64 base,.int .i64 bits,.iface 162 (.int .i64 1)] w fun e w'=>∃ N,e= .returned (.iface 164 (.pointer (some ⟨N,0,none⟩)))∧w.heap.size≤N∧w'.heap[N]? =some (.cells #[.string fn,.string s,ev] 192 (0,0))∧Below w.heap.size w w':=Any.strconv_toError_range Tryz.Lz fn s base bits ev w hlim hv hev
def Tryz.LA:Go.Shelf.Ren:=⟨fun| 145=>91| 220=>139| 219=>125| 217=>163| 225=>164| 224=>165| 267=>166| 266=>187| 314=>188|n=>n,fun| 9=>9| 4=>4| 59=>104| 3=>3| 5=>5| 46=>67| 146=>118| 51=>117|n=>n,fun| 1=>1|n=>n⟩
theorem Tryz.Xh:Go.Proofs.Lays.n145 Tryz.prog Tryz.LA:={
 mixed:=by kernel_rfl
 f145:=Tryz.func91.trans (congrArg some au)
 f217:=Tryz.func163.trans (congrArg some au)
 f219:=Tryz.func125.trans (congrArg some au)
 f220:=Tryz.func139.trans (congrArg some au)
 f224:=Tryz.func165.trans (congrArg some au)
 f225:=Tryz.func164.trans (congrArg some au)
 f266:=Tryz.func187.trans (congrArg some au)
 f267:=Tryz.func166.trans (congrArg some au)
 f314:=Tryz.func188.trans (congrArg some au)
 t3:=Tryz.underlying3
 a3:=Tryz.isAgg3
 z3:=Tryz.sizeOf3
 v3:=Tryz.zeroValue3
 t4:=Tryz.underlying4
 a4:=Tryz.isAgg4
 z4:=Tryz.sizeOf4
 v4:=Tryz.zeroValue4
 t5:=Tryz.underlying5
 a5:=Tryz.isAgg5
 z5:=Tryz.sizeOf5
 v5:=Tryz.zeroValue5
 t9:=Tryz.underlying9
 a9:=Tryz.isAgg9
 z9:=Tryz.sizeOf9
 v9:=Tryz.zeroValue9
 t46:=Tryz.underlying67
 a46:=Tryz.isAgg67
 z46:=Tryz.sizeOf67
 v46:=Tryz.zeroValue67
 t51:=Tryz.underlying117
 a51:=Tryz.isAgg117
 z51:=Tryz.sizeOf117
 v51:=Tryz.zeroValue117
 t59:=Tryz.underlying104
 a59:=Tryz.isAgg104
 z59:=Tryz.sizeOf104
 v59:=Tryz.zeroValue104
 t146:=Tryz.underlying118
 a146:=Tryz.isAgg118
 z146:=Tryz.sizeOf118
 v146:=Tryz.zeroValue118
 g1:=by kernel_rfl}
open Go.RowKit Go.Lib in
theorem Tryz.strings_Cut (s sep:ByteArray) (m:Int) (w:World) (hs:s.size < 4294967281) (hm:w.cell? ⟨1,0,none⟩=some (.int .i64 m)):
 Calls Tryz.prog 91 #[.string s,.string sep] w fun e w'=>e= .returned (.tuple #[.string ⟨(Lib.cut s.data.toList sep.data.toList).1.toArray⟩,.string ⟨(Lib.cut s.data.toList sep.data.toList).2.1.toArray⟩,.bool (Lib.cut s.data.toList sep.data.toList).2.2])∧∃ n,w'=w.drewN n:=Any.strings_Cut Tryz.Xh s sep m w hs hm
def Tryz.LB:Go.Shelf.Ren:=⟨fun| 138=>99| 195=>144| 218=>145| 143=>74| 219=>125| 217=>163| 225=>164| 224=>165| 267=>166| 266=>187| 314=>188|n=>n,fun| 9=>9| 3=>3| 4=>4| 5=>5| 0=>0| 46=>67| 146=>118| 51=>117|n=>n,fun| 1=>1|n=>n⟩
theorem Tryz.Xi:Go.Proofs.Lays.n138 Tryz.prog Tryz.LB:={
 mixed:=by kernel_rfl
 f138:=Tryz.func99.trans (congrArg some au)
 f143:=Tryz.func74.trans (congrArg some au)
 f195:=Tryz.func144.trans (congrArg some au)
 f217:=Tryz.func163.trans (congrArg some au)
 f218:=Tryz.func145.trans (congrArg some au)
 f219:=Tryz.func125.trans (congrArg some au)
 f224:=Tryz.func165.trans (congrArg some au)
 f225:=Tryz.func164.trans (congrArg some au)
 f266:=Tryz.func187.trans (congrArg some au)
 f267:=Tryz.func166.trans (congrArg some au)
 f314:=Tryz.func188.trans (congrArg some au)
 t0:=Tryz.underlying0
 a0:=Tryz.isAgg0
 z0:=Tryz.sizeOf0
 v0:=Tryz.zeroValue0
 t3:=Tryz.underlying3
 a3:=Tryz.isAgg3
 z3:=Tryz.sizeOf3
 v3:=Tryz.zeroValue3
 t4:=Tryz.underlying4
 a4:=Tryz.isAgg4
 z4:=Tryz.sizeOf4
 v4:=Tryz.zeroValue4
 t5:=Tryz.underlying5
 a5:=Tryz.isAgg5
 z5:=Tryz.sizeOf5
 v5:=Tryz.zeroValue5
 t9:=Tryz.underlying9
 a9:=Tryz.isAgg9
 z9:=Tryz.sizeOf9
 v9:=Tryz.zeroValue9
 t46:=Tryz.underlying67
 a46:=Tryz.isAgg67
 z46:=Tryz.sizeOf67
 v46:=Tryz.zeroValue67
 t51:=Tryz.underlying117
 a51:=Tryz.isAgg117
 z51:=Tryz.sizeOf117
 v51:=Tryz.zeroValue117
 t146:=Tryz.underlying118
 a146:=Tryz.isAgg118
 z146:=Tryz.sizeOf118
 v146:=Tryz.zeroValue118
 g1:=by kernel_rfl}
open Go.RowKit Go.Lib in
theorem Tryz.strings_Count_one (s:ByteArray) (c:UInt8) (w:World):
 Calls Tryz.prog 99 #[.string s,.string ⟨#[c]⟩] w fun e w'=>e= .returned (.int .i64 (Lib.countByte s.data.toList c))∧w'=w:=Any.strings_Count_one Tryz.Xi s c w
def Tryz.LC:Go.Shelf.Ren:=⟨fun| 146=>75| 221=>126| 268=>167| 138=>99| 143=>74| 195=>144| 197=>100| 218=>145| 219=>125| 260=>146| 217=>163| 225=>164| 224=>165| 267=>166| 266=>187| 314=>188|n=>n,fun| 9=>9| 31=>28| 3=>3| 4=>4| 0=>0| 105=>109| 21=>21| 5=>5| 46=>67| 119=>169| 139=>172| 138=>171| 146=>118| 51=>117|n=>n,fun| 1=>1| 3=>2| 4=>3|n=>n⟩
theorem Tryz.Xj:Go.Proofs.Lays.n146 Tryz.prog Tryz.LC:={
 mixed:=by kernel_rfl
 f138:=Tryz.func99.trans (congrArg some au)
 f143:=Tryz.func74.trans (congrArg some au)
 f146:=Tryz.func75.trans (congrArg some au)
 f195:=Tryz.func144.trans (congrArg some au)
 f197:=Tryz.func100.trans (congrArg some au)
 f217:=Tryz.func163.trans (congrArg some au)
 f218:=Tryz.func145.trans (congrArg some au)
 f219:=Tryz.func125.trans (congrArg some au)
 f221:=Tryz.func126.trans (congrArg some au)
 f224:=Tryz.func165.trans (congrArg some au)
 f225:=Tryz.func164.trans (congrArg some au)
 f260:=Tryz.func146.trans (congrArg some au)
 f266:=Tryz.func187.trans (congrArg some au)
 f267:=Tryz.func166.trans (congrArg some au)
 f268:=Tryz.func167.trans (congrArg some au)
 f314:=Tryz.func188.trans (congrArg some au)
 t0:=Tryz.underlying0
 a0:=Tryz.isAgg0
 z0:=Tryz.sizeOf0
 v0:=Tryz.zeroValue0
 t3:=Tryz.underlying3
 a3:=Tryz.isAgg3
 z3:=Tryz.sizeOf3
 v3:=Tryz.zeroValue3
 t4:=Tryz.underlying4
 a4:=Tryz.isAgg4
 z4:=Tryz.sizeOf4
 v4:=Tryz.zeroValue4
 t5:=Tryz.underlying5
 a5:=Tryz.isAgg5
 z5:=Tryz.sizeOf5
 v5:=Tryz.zeroValue5
 t9:=Tryz.underlying9
 a9:=Tryz.isAgg9
 z9:=Tryz.sizeOf9
 v9:=Tryz.zeroValue9
 t21:=Tryz.underlying21
 a21:=Tryz.isAgg21
 z21:=Tryz.sizeOf21
 v21:=Tryz.zeroValue21
 t31:=Tryz.underlying28
 a31:=Tryz.isAgg28
 z31:=Tryz.sizeOf28
 v31:=Tryz.zeroValue28
 t46:=Tryz.underlying67
 a46:=Tryz.isAgg67
 z46:=Tryz.sizeOf67
 v46:=Tryz.zeroValue67
 t51:=Tryz.underlying117
 a51:=Tryz.isAgg117
 z51:=Tryz.sizeOf117
 v51:=Tryz.zeroValue117
 t105:=Tryz.underlying109
 a105:=Tryz.isAgg109
 z105:=Tryz.sizeOf109
 v105:=Tryz.zeroValue109
 t119:=Tryz.underlying169
 a119:=Tryz.isAgg169
 z119:=Tryz.sizeOf169
 t138:=Tryz.underlying171
 a138:=Tryz.isAgg171
 z138:=Tryz.sizeOf171
 v138:=Tryz.zeroValue171
 t139:=Tryz.underlying172
 a139:=Tryz.isAgg172
 z139:=Tryz.sizeOf172
 v139:=Tryz.zeroValue172
 t146:=Tryz.underlying118
 a146:=Tryz.isAgg118
 z146:=Tryz.sizeOf118
 v146:=Tryz.zeroValue118
 g1:=by kernel_rfl
 g3:=by kernel_rfl
 g4:=by kernel_rfl}
open Go.RowKit Go.Lib in
theorem Tryz.strings_Split (s sep:ByteArray) (m:Int) (w:World) (hs:s.size < 4294967281) (hm:w.cell? ⟨1,0,none⟩=some (.int .i64 m)) (h1: 1≤sep.size):
 Calls Tryz.prog 75 #[.string s,.string sep] w fun e w'=>
  e= .returned (.slice (some ⟨w.heap.size,0,none⟩) (Lib.countB s sep + 1) (Lib.countB s sep + 1))∧w'=w.alloc (.cells ((Lib.splitB sep 0 (Lib.countB s sep) s).map Value.string).toArray 9):=Any.strings_Split Tryz.Xj au s sep m w hs hm h1
end Go.Proofs
