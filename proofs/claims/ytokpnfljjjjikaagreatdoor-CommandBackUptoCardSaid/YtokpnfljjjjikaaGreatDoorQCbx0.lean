import Derived.Test.YtokpnfljjjjikaaGreatDoorZo
import Derived.Test.YtokpnfljjjjikaaGreatDoorProg
import Derived.Below
import Derived.Deep.Draws
import Derived.Deep.AppendLies
import Derived.Maps.AppendAt
import Derived.OwnWalk
import Derived.Laws.BytesArg
import Derived.Laws.MakeOwn
import Derived.Laws.OwnMore
import Derived.Deep.OwnRows
import Derived.Tactics
import Derived.Lib.ConvBytes
import Derived.Laws.Slices
import Derived.WalkKit
import Derived.KernelRfl
import Derived.RowKit3
import Derived.Deep.LoopGhost
import Derived.Deep.QuietTactic
import Derived.BigQuiet
import Derived.WideLaws
import Derived.Deep.DeepCutAuto
import Derived.Deep.CutBlock
import Derived.Deep.RegionHeld3
import Derived.Laws.Rows
import Derived.Lib.AppendStr
import Derived.ArgAppend
import Derived.Laws.IdiomCopy
import Derived.OrdersHeld
import Derived.Laws.BitsLemmas
import Derived.RowKit
import Derived.Test.YtokpnfljjjjikaaGreatDoorWWords
import Derived.Test.YtokpnfljjjjikaaGreatDoorWLast
import Derived.Test.YtokpnfljjjjikaaGreatDoorWTab
import Derived.Test.YtokpnfljjjjikaaGreatDoorWApart
import Derived.Test.YtokpnfljjjjikaaGreatDoorWFoot
import Derived.Test.YtokpnfljjjjikaaGreatDoorWKept
import Derived.Test.YtokpnfljjjjikaaGreatDoorWShare
import Derived.Test.YtokpnfljjjjikaaGreatDoorWN
import Derived.Test.YtokpnfljjjjikaaGreatDoorWEqStruct
import Derived.Test.YtokpnfljjjjikaaGreatDoorWGuard
import Derived.Test.YtokpnfljjjjikaaGreatDoorWMore
namespace Go.Proofs.YtokpnfljjjjikaaGreatDoor.nX
open Go.RowKit Go.Proofs.aj.bW Go.Proofs.aj.fW Go.Proofs.aj.dz
attribute [local go_sem] jg jh kO kP iK iL ji jk
set_option linter.unusedVariables false
set_option linter.unusedSimpArgs false
def ad0:Option Int→Value
 |none=> .nilIface
 |some c=> .iface 0 (.int .i64 c)
theorem lQ:ad0 none= .nilIface:=rfl
theorem lR (c:Int):ad0 (some c)= .iface 0 (.int .i64 c):=rfl
theorem GR:(Tryz.prog.info? 5).map (fun i=>(i.zero,i.size,i.bytes))=some (some (.int .u8 0),1,1):=by kernel_rfl
theorem ad1:(Tryz.prog.info? 9).map (fun i=>(i.zero,i.size,i.bytes))=some (some (.string ⟨#[]⟩),1,16):=by kernel_rfl
theorem abJ:(Tryz.prog.info? 58).map (fun i=>(i.zero,i.size,i.bytes))=some (some (.agg #[(.string ⟨#[]⟩),(.string ⟨#[]⟩),(.bool false)]),3,40):=by kernel_rfl
structure S82 where
 f0:ByteArray
 f1:Int
structure S30 where
 f0:ByteArray
 f1:ByteArray
 f2:Bool
structure S32 where
 f0:Bool
 f1:(List ByteArray)
 f2:S30
structure gP where
 f0:ByteArray
 f1:ByteArray
 f2:Bool
def z58:gP:=⟨(⟨#[]⟩:ByteArray),(⟨#[]⟩:ByteArray),false⟩
def zF:Kd gP:=Kd.iso (Kd.pair Kd.string (Kd.pair Kd.string Kd.bool)) (fun x:gP=>(x.f0,x.f1,x.f2))
theorem UN {w:World} {x:gP} {cs:List Value} (h:zF.K w x cs):cs= [.string x.f0,.string x.f1,.bool x.f2]:=by
 obtain ⟨_,_,rfl,rfl,⟨_,_,rfl,rfl,rfl⟩⟩:=h
 exact rfl
theorem abK (w:World) (x:gP):zF.K w x [.string x.f0,.string x.f1,.bool x.f2]:=⟨[.string x.f0],[.string x.f1,.bool x.f2],rfl,rfl,⟨[.string x.f1],[.bool x.f2],rfl,rfl,rfl⟩⟩
theorem IJ (w:World) (base:Nat) (ok:Nat→Prop) (x:gP):zF.M w base ok x [.string x.f0,.string x.f1,.bool x.f2]:=⟨[.string x.f0],[.string x.f1,.bool x.f2],rfl,rfl,⟨[.string x.f1],[.bool x.f2],rfl,rfl,rfl⟩⟩
def dN (xs:List gP) (i:Int):gP:=xs.getD i.toNat z58
theorem wN {w:World} {A:Option Addr} {n:Nat} {xs:List gP} (h:Kd.C zF w A n xs) (i:Int) (h0: 0≤i) (h1:i < n):∃ ad,A=some ad∧w.cell? (ad.add (i.toNat * 3))=some (.string (dN xs i).f0)∧w.cell? ⟨(ad.add (i.toNat * 3)).block,(ad.add (i.toNat * 3)).off + 1,none⟩=some (.string (dN xs i).f1)∧w.cell? ⟨(ad.add (i.toNat * 3)).block,(ad.add (i.toNat * 3)).off + 2,none⟩=some (.bool (dN xs i).f2):=by
 obtain ⟨ad,c,e,_,hK,hc0⟩:=Kd.adS h z58 i h0 h1
 have hc:∀ j u,c[j]? =some u→w.cell? (ad.add (i.toNat * 3 + j))=some u:=hc0
 obtain rfl:=UN hK
 exact ⟨ad,e,hc 0 _ rfl,by rw [← GK _ _ 1 aq];exact hc 1 _ rfl,by rw [← GK _ _ 2 aq];exact hc 2 _ rfl⟩
structure S35 where
 f0:Int
 f1:ByteArray
 f2:S32
 f3:(List gP)
end Go.Proofs.YtokpnfljjjjikaaGreatDoor.nX
