import Derived.Test.YtokpnfljjjjikaaGreatDoorZo
import Derived.Test.YtokpnfljjjjikaaGreatDoorWTab
import Derived.Test.YtokpnfljjjjikaaGreatDoorWEqStruct
import Derived.Test.YtokpnfljjjjikaaGreatDoorWGuard
import Derived.Test.YtokpnfljjjjikaaGreatDoorWMore
namespace Go.Proofs.YtokpnfljjjjikaaGreatDoor.n9
open Go.RowKit Go.Proofs.aj.bQ Go.Proofs.aj.gf Go.Proofs.aj.cT
attribute [local go_sem] jt iY kQ kJ iJ iK ju jv
set_option linter.unusedVariables false
set_option linter.unusedSimpArgs false
def afk:Option Int→Value
 |none=> .nilIface
 |some c=> .iface 0 (.int .i64 c)
theorem lW:afk none= .nilIface:=rfl
theorem lX (c:Int):afk (some c)= .iface 0 (.int .i64 c):=rfl
theorem Jf:(Tryz.prog.info? 5).map (fun i=>(i.zero,i.size,i.bytes))=some (some (.int .u8 0),1,1):=by kernel_rfl
theorem afl:(Tryz.prog.info? 9).map (fun i=>(i.zero,i.size,i.bytes))=some (some (.string ⟨#[]⟩),1,16):=by kernel_rfl
theorem ac1:(Tryz.prog.info? 58).map (fun i=>(i.zero,i.size,i.bytes))=some (some (.agg #[(.string ⟨#[]⟩),(.string ⟨#[]⟩),(.bool false)]),3,40):=by kernel_rfl
structure S82 where
 f0:ByteArray
 f1:Int
structure S30 where
 f0:ByteArray
 f1:ByteArray
 f2:Bool
structure S32 where
 f0:Bool
 f1:(List ByteArray)
 f2:S30
structure gI where
 f0:ByteArray
 f1:ByteArray
 f2:Bool
def z58:gI:=⟨(⟨#[]⟩:ByteArray),(⟨#[]⟩:ByteArray),false⟩
def BC:Kd gI:=Kd.iso (Kd.pair Kd.string (Kd.pair Kd.string Kd.bool)) (fun x:gI=>(x.f0,x.f1,x.f2))
theorem WM {w:World} {x:gI} {cs:List Value} (h:BC.K w x cs):cs= [.string x.f0,.string x.f1,.bool x.f2]:=by
 obtain ⟨_,_,rfl,rfl,⟨_,_,rfl,rfl,rfl⟩⟩:=h
 exact rfl
theorem ac2 (w:World) (x:gI):BC.K w x [.string x.f0,.string x.f1,.bool x.f2]:=⟨[.string x.f0],[.string x.f1,.bool x.f2],rfl,rfl,⟨[.string x.f1],[.bool x.f2],rfl,rfl,rfl⟩⟩
theorem Ki (w:World) (base:Nat) (ok:Nat→Prop) (x:gI):BC.M w base ok x [.string x.f0,.string x.f1,.bool x.f2]:=⟨[.string x.f0],[.string x.f1,.bool x.f2],rfl,rfl,⟨[.string x.f1],[.bool x.f2],rfl,rfl,rfl⟩⟩
def cv (xs:List gI) (i:Int):gI:=xs.getD i.toNat z58
theorem vY {w:World} {A:Option Addr} {n:Nat} {xs:List gI} (h:Kd.C BC w A n xs) (i:Int) (h0: 0≤i) (h1:i < n):∃ ad,A=some ad∧w.cell? (ad.add (i.toNat * 3))=some (.string (cv xs i).f0)∧w.cell? ⟨(ad.add (i.toNat * 3)).block,(ad.add (i.toNat * 3)).off + 1,none⟩=some (.string (cv xs i).f1)∧w.cell? ⟨(ad.add (i.toNat * 3)).block,(ad.add (i.toNat * 3)).off + 2,none⟩=some (.bool (cv xs i).f2):=by
 obtain ⟨ad,c,e,_,hK,hc0⟩:=Kd.afc h z58 i h0 h1
 have hc:∀ j u,c[j]? =some u→w.cell? (ad.add (i.toNat * 3 + j))=some u:=hc0
 obtain rfl:=WM hK
 exact ⟨ad,e,hc 0 _ rfl,by rw [← Ja _ _ 1 aq];exact hc 1 _ rfl,by rw [← Ja _ _ 2 aq];exact hc 2 _ rfl⟩
structure S35 where
 f0:Int
 f1:ByteArray
 f2:S32
 f3:(List gI)
end Go.Proofs.YtokpnfljjjjikaaGreatDoor.n9
