import Derived.Test.YtokpnfljjjjikaaGreatDoorZo
import Derived.Test.YtokpnfljjjjikaaGreatDoorProg
import Derived.Below
import Derived.Deep.Draws
import Derived.Deep.AppendLies
import Derived.Maps.AppendAt
import Derived.OwnWalk
import Derived.Laws.BytesArg
import Derived.Laws.MakeOwn
import Derived.Laws.OwnMore
import Derived.Deep.OwnRows
import Derived.Tactics
import Derived.Lib.ConvBytes
import Derived.Laws.Slices
import Derived.WalkKit
import Derived.KernelRfl
import Derived.RowKit3
import Derived.Deep.LoopGhost
import Derived.Deep.QuietTactic
import Derived.BigQuiet
import Derived.WideLaws
import Derived.Deep.DeepCutAuto
import Derived.Deep.CutBlock
import Derived.Deep.RegionHeld3
import Derived.Laws.Rows
import Derived.Lib.AppendStr
import Derived.ArgAppend
import Derived.Laws.IdiomCopy
import Derived.OrdersHeld
import Derived.Laws.BitsLemmas
import Derived.RowKit
import Derived.Test.YtokpnfljjjjikaaGreatDoorWWords
import Derived.Test.YtokpnfljjjjikaaGreatDoorWLast
import Derived.Test.YtokpnfljjjjikaaGreatDoorWTab
import Derived.Test.YtokpnfljjjjikaaGreatDoorWApart
import Derived.Test.YtokpnfljjjjikaaGreatDoorWFoot
import Derived.Test.YtokpnfljjjjikaaGreatDoorWKept
import Derived.Test.YtokpnfljjjjikaaGreatDoorWShare
import Derived.Test.YtokpnfljjjjikaaGreatDoorWN
import Derived.Test.YtokpnfljjjjikaaGreatDoorWEqStruct
import Derived.Test.YtokpnfljjjjikaaGreatDoorWGuard
import Derived.Test.YtokpnfljjjjikaaGreatDoorWMore
namespace Go.Proofs.YtokpnfljjjjikaaGreatDoor.pJ
open Go.RowKit Go.Proofs.aj.bV Go.Proofs.aj.gq Go.Proofs.aj.dB
attribute [local go_sem] jo jq kM kN iO iP jr jt
set_option linter.unusedVariables false
set_option linter.unusedSimpArgs false
def adF:Option Int→Value
 |none=> .nilIface
 |some c=> .iface 0 (.int .i64 c)
theorem lX:adF none= .nilIface:=rfl
theorem lY (c:Int):adF (some c)= .iface 0 (.int .i64 c):=rfl
theorem G9:(Tryz.prog.info? 5).map (fun i=>(i.zero,i.size,i.bytes))=some (some (.int .u8 0),1,1):=by kernel_rfl
theorem adG:(Tryz.prog.info? 9).map (fun i=>(i.zero,i.size,i.bytes))=some (some (.string ⟨#[]⟩),1,16):=by kernel_rfl
theorem abk:(Tryz.prog.info? 58).map (fun i=>(i.zero,i.size,i.bytes))=some (some (.agg #[(.string ⟨#[]⟩),(.string ⟨#[]⟩),(.bool false)]),3,40):=by kernel_rfl
structure S82 where
 f0:ByteArray
 f1:Int
structure S30 where
 f0:ByteArray
 f1:ByteArray
 f2:Bool
structure S32 where
 f0:Bool
 f1:(List ByteArray)
 f2:S30
structure ij where
 f0:ByteArray
 f1:ByteArray
 f2:Bool
def z58:ij:=⟨(⟨#[]⟩:ByteArray),(⟨#[]⟩:ByteArray),false⟩
def CF:Kd ij:=Kd.iso (Kd.pair Kd.string (Kd.pair Kd.string Kd.bool)) (fun x:ij=>(x.f0,x.f1,x.f2))
theorem Vk {w:World} {x:ij} {cs:List Value} (h:CF.K w x cs):cs= [.string x.f0,.string x.f1,.bool x.f2]:=by
 obtain ⟨_,_,rfl,rfl,⟨_,_,rfl,rfl,rfl⟩⟩:=h
 exact rfl
theorem I0 (w:World) (base:Nat) (ok:Nat→Prop) (x:ij):CF.M w base ok x [.string x.f0,.string x.f1,.bool x.f2]:=⟨[.string x.f0],[.string x.f1,.bool x.f2],rfl,rfl,⟨[.string x.f1],[.bool x.f2],rfl,rfl,rfl⟩⟩
def dL (xs:List ij) (i:Int):ij:=xs.getD i.toNat z58
theorem xe {w:World} {A:Option Addr} {n:Nat} {xs:List ij} (h:Kd.C CF w A n xs) (i:Int) (h0: 0≤i) (h1:i < n):∃ ad,A=some ad∧w.cell? (ad.add (i.toNat * 3))=some (.string (dL xs i).f0)∧w.cell? ⟨(ad.add (i.toNat * 3)).block,(ad.add (i.toNat * 3)).off + 1,none⟩=some (.string (dL xs i).f1)∧w.cell? ⟨(ad.add (i.toNat * 3)).block,(ad.add (i.toNat * 3)).off + 2,none⟩=some (.bool (dL xs i).f2):=by
 obtain ⟨ad,c,e,_,hK,hc0⟩:=Kd.adx h z58 i h0 h1
 have hc:∀ j u,c[j]? =some u→w.cell? (ad.add (i.toNat * 3 + j))=some u:=hc0
 obtain rfl:=Vk hK
 exact ⟨ad,e,hc 0 _ rfl,by rw [← G1 _ _ 1 aq];exact hc 1 _ rfl,by rw [← G1 _ _ 2 aq];exact hc 2 _ rfl⟩
structure S35 where
 f0:Int
 f1:ByteArray
 f2:S32
 f3:(List ij)
end Go.Proofs.YtokpnfljjjjikaaGreatDoor.pJ
