import Derived.Test.YtokpnfljjjjikaaGreatDoorZo
import Derived.Test.YtokpnfljjjjikaaGreatDoorWTab
import Derived.Test.YtokpnfljjjjikaaGreatDoorWEqStruct
import Derived.Test.YtokpnfljjjjikaaGreatDoorWGuard
import Derived.Test.YtokpnfljjjjikaaGreatDoorWMore
namespace Go.Proofs.YtokpnfljjjjikaaGreatDoor.nK
open Go.RowKit Go.Proofs.aj.bQ Go.Proofs.aj.fR Go.Proofs.aj.cM
attribute [local go_sem] iY iZ ku kA ig ij jc jd
set_option linter.unusedVariables false
set_option linter.unusedSimpArgs false
def acS:Option Int→Value
 |none=> .nilIface
 |some c=> .iface 0 (.int .i64 c)
theorem lu:acS none= .nilIface:=rfl
theorem lA (c:Int):acS (some c)= .iface 0 (.int .i64 c):=rfl
theorem GH:(Tryz.prog.info? 5).map (fun i=>(i.zero,i.size,i.bytes))=some (some (.int .u8 0),1,1):=by kernel_rfl
theorem acT:(Tryz.prog.info? 9).map (fun i=>(i.zero,i.size,i.bytes))=some (some (.string ⟨#[]⟩),1,16):=by kernel_rfl
theorem aaB:(Tryz.prog.info? 58).map (fun i=>(i.zero,i.size,i.bytes))=some (some (.agg #[(.string ⟨#[]⟩),(.string ⟨#[]⟩),(.bool false)]),3,40):=by kernel_rfl
structure S82 where
 f0:ByteArray
 f1:Int
structure S30 where
 f0:ByteArray
 f1:ByteArray
 f2:Bool
structure S32 where
 f0:Bool
 f1:(List ByteArray)
 f2:S30
structure gw where
 f0:ByteArray
 f1:ByteArray
 f2:Bool
def z58:gw:=⟨(⟨#[]⟩:ByteArray),(⟨#[]⟩:ByteArray),false⟩
def zN:Kd gw:=Kd.iso (Kd.pair Kd.string (Kd.pair Kd.string Kd.bool)) (fun x:gw=>(x.f0,x.f1,x.f2))
theorem UC {w:World} {x:gw} {cs:List Value} (h:zN.K w x cs):cs= [.string x.f0,.string x.f1,.bool x.f2]:=by
 obtain ⟨_,_,rfl,rfl,⟨_,_,rfl,rfl,rfl⟩⟩:=h
 exact rfl
theorem aaC (w:World) (x:gw):zN.K w x [.string x.f0,.string x.f1,.bool x.f2]:=⟨[.string x.f0],[.string x.f1,.bool x.f2],rfl,rfl,⟨[.string x.f1],[.bool x.f2],rfl,rfl,rfl⟩⟩
theorem Iz (w:World) (base:Nat) (ok:Nat→Prop) (x:gw):zN.M w base ok x [.string x.f0,.string x.f1,.bool x.f2]:=⟨[.string x.f0],[.string x.f1,.bool x.f2],rfl,rfl,⟨[.string x.f1],[.bool x.f2],rfl,rfl,rfl⟩⟩
def dw (xs:List gw) (i:Int):gw:=xs.getD i.toNat z58
theorem wI {w:World} {A:Option Addr} {n:Nat} {xs:List gw} (h:Kd.C zN w A n xs) (i:Int) (h0: 0≤i) (h1:i < n):∃ ad,A=some ad∧w.cell? (ad.add (i.toNat * 3))=some (.string (dw xs i).f0)∧w.cell? ⟨(ad.add (i.toNat * 3)).block,(ad.add (i.toNat * 3)).off + 1,none⟩=some (.string (dw xs i).f1)∧w.cell? ⟨(ad.add (i.toNat * 3)).block,(ad.add (i.toNat * 3)).off + 2,none⟩=some (.bool (dw xs i).f2):=by
 obtain ⟨ad,c,e,_,hK,hc0⟩:=Kd.acK h z58 i h0 h1
 have hc:∀ j u,c[j]? =some u→w.cell? (ad.add (i.toNat * 3 + j))=some u:=hc0
 obtain rfl:=UC hK
 exact ⟨ad,e,hc 0 _ rfl,by rw [← Gz _ _ 1 aq];exact hc 1 _ rfl,by rw [← Gz _ _ 2 aq];exact hc 2 _ rfl⟩
structure S35 where
 f0:Int
 f1:ByteArray
 f2:S32
 f3:(List gw)
end Go.Proofs.YtokpnfljjjjikaaGreatDoor.nK
