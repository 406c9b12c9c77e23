import Derived.Test.YtbjjaaodfbjkfaaGreatDoorZo
import Derived.Test.YtbjjaaodfbjkfaaGreatDoorWTab
import Derived.Test.YtbjjaaodfbjkfaaGreatDoorWEqStruct
import Derived.Test.YtbjjaaodfbjkfaaGreatDoorWGuard
import Derived.Test.YtbjjaaodfbjkfaaGreatDoorWMore
namespace Go.Proofs.YtbjjaaodfbjkfaaGreatDoor.qb
open Go.RowKit Go.Proofs.aj.bQ Go.Proofs.aj.dX Go.Proofs.aj.dJ
attribute [local go_sem] jT jU lF lG iX iY jV jW
set_option linter.unusedVariables false
set_option linter.unusedSimpArgs false
theorem info3:(Tryz.prog.info? 3).map (fun i=>(i.zero,i.size,i.bytes))=some (some (.int .i64 0),1,8):=by kernel_rfl
theorem abc:(Tryz.prog.info? 5).map (fun i=>(i.zero,i.size,i.bytes))=some (some (.int .u8 0),1,1):=by kernel_rfl
theorem agL:(Tryz.prog.info? 9).map (fun i=>(i.zero,i.size,i.bytes))=some (some (.string ⟨#[]⟩),1,16):=by kernel_rfl
theorem ac8:(Tryz.prog.info? 34).map (fun i=>(i.zero,i.size,i.bytes))=some (some (.agg #[(.int .i64 0),(.bool false),(.slice none 0 0),(.string ⟨#[]⟩),(.string ⟨#[]⟩),(.bool false),(.slice none 0 0),(.slice none 0 0),(.int .i64 0)]),9,136):=by kernel_rfl
theorem Jw:(Tryz.prog.info? 37).map (fun i=>(i.zero,i.size,i.bytes))=some (some (.agg #[(.string ⟨#[]⟩),(.string ⟨#[]⟩),(.bool false),(.int .u8 0),(.int .i64 0),(.int .i64 0)]),6,64):=by kernel_rfl
structure sD where
 f0:ByteArray
 f1:ByteArray
 f2:Bool
def z29:sD:=⟨(⟨#[]⟩:ByteArray),(⟨#[]⟩:ByteArray),false⟩
def k29:Kd sD:=Kd.iso (Kd.pair Kd.string (Kd.pair Kd.string Kd.bool)) (fun x:sD=>(x.f0,x.f1,x.f2))
theorem H6 {w:World} {x:sD} {cs:List Value} (h:k29.K w x cs):cs= [.string x.f0,.string x.f1,.bool x.f2]:=by
 obtain ⟨_,_,rfl,rfl,⟨_,_,rfl,rfl,rfl⟩⟩:=h
 exact rfl
theorem CB {w:World} {base:Nat} {ok:Nat→Prop} {x:sD} {cs:List Value} (h:k29.M w base ok x cs):cs= [.string x.f0,.string x.f1,.bool x.f2]:=by
 obtain ⟨_,_,rfl,rfl,⟨_,_,rfl,rfl,rfl⟩⟩:=h
 exact rfl
theorem Ld (w:World) (base:Nat) (ok:Nat→Prop) (x:sD):k29.M w base ok x [.string x.f0,.string x.f1,.bool x.f2]:=⟨[.string x.f0],[.string x.f1,.bool x.f2],rfl,rfl,⟨[.string x.f1],[.bool x.f2],rfl,rfl,rfl⟩⟩
structure iN where
 f0:sD
 f1:Int
 f2:Int
 f3:Int
def z37:iN:=⟨z29,(0:Int),(0:Int),(0:Int)⟩
def mV:Kd iN:=Kd.iso (Kd.pair k29 (Kd.pair (Kd.int .u8) (Kd.pair (Kd.int .i64) (Kd.int .i64)))) (fun x:iN=>(x.f0,x.f1,x.f2,x.f3))
theorem H7 {w:World} {x:iN} {cs:List Value} (h:mV.K w x cs):cs= [.string x.f0.f0,.string x.f0.f1,.bool x.f0.f2,.int .u8 x.f1,.int .i64 x.f2,.int .i64 x.f3]:=by
 obtain ⟨_,_,rfl,s0,⟨_,_,rfl,rfl,⟨_,_,rfl,rfl,rfl⟩⟩⟩:=h
 obtain rfl:=H6 s0
 exact rfl
theorem pE {w:World} {base:Nat} {ok:Nat→Prop} {x:iN} {cs:List Value} (h:mV.M w base ok x cs):cs= [.string x.f0.f0,.string x.f0.f1,.bool x.f0.f2,.int .u8 x.f1,.int .i64 x.f2,.int .i64 x.f3]:=by
 obtain ⟨_,_,rfl,s0,⟨_,_,rfl,rfl,⟨_,_,rfl,rfl,rfl⟩⟩⟩:=h
 obtain rfl:=CB s0
 exact rfl
theorem tF (w:World) (base:Nat) (ok:Nat→Prop) (x:iN):mV.M w base ok x [.string x.f0.f0,.string x.f0.f1,.bool x.f0.f2,.int .u8 x.f1,.int .i64 x.f2,.int .i64 x.f3]:=⟨[.string x.f0.f0,.string x.f0.f1,.bool x.f0.f2],[.int .u8 x.f1,.int .i64 x.f2,.int .i64 x.f3],rfl,(Ld w base ok x.f0),⟨[.int .u8 x.f1],[.int .i64 x.f2,.int .i64 x.f3],rfl,rfl,⟨[.int .i64 x.f2],[.int .i64 x.f3],rfl,rfl,rfl⟩⟩⟩
def bg (xs:List iN) (i:Int):iN:=xs.getD i.toNat z37
theorem uO {w:World} {A:Option Addr} {n:Nat} {xs:List iN} (h:Kd.C mV w A n xs) (i:Int) (h0: 0≤i) (h1:i < n):∃ ad,A=some ad∧w.cell? (ad.add (i.toNat * 6))=some (.string (bg xs i).f0.f0)∧w.cell? ⟨(ad.add (i.toNat * 6)).block,(ad.add (i.toNat * 6)).off + 1,none⟩=some (.string (bg xs i).f0.f1)∧w.cell? ⟨(ad.add (i.toNat * 6)).block,(ad.add (i.toNat * 6)).off + 2,none⟩=some (.bool (bg xs i).f0.f2)∧w.cell? ⟨(ad.add (i.toNat * 6)).block,(ad.add (i.toNat * 6)).off + 3,none⟩=some (.int .u8 (bg xs i).f1)∧w.cell? ⟨(ad.add (i.toNat * 6)).block,(ad.add (i.toNat * 6)).off + 4,none⟩=some (.int .i64 (bg xs i).f2)∧w.cell? ⟨(ad.add (i.toNat * 6)).block,(ad.add (i.toNat * 6)).off + 5,none⟩=some (.int .i64 (bg xs i).f3):=by
 obtain ⟨ad,c,e,_,hK,hc0⟩:=Kd.aa6 h z37 i h0 h1
 have hc:∀ j u,c[j]? =some u→w.cell? (ad.add (i.toNat * 6 + j))=some u:=hc0
 obtain rfl:=H7 hK
 exact ⟨ad,e,hc 0 _ rfl,by rw [← eT _ _ 1 ay];exact hc 1 _ rfl,by rw [← eT _ _ 2 ay];exact hc 2 _ rfl,by rw [← eT _ _ 3 ay];exact hc 3 _ rfl,by rw [← eT _ _ 4 ay];exact hc 4 _ rfl,by rw [← eT _ _ 5 ay];exact hc 5 _ rfl⟩
structure PV where
 f0:Bool
 f1:(List ByteArray)
 f2:sD
def z31:PV:=⟨false,([]:List ByteArray),z29⟩
def k31:Kd PV:=Kd.iso (Kd.pair Kd.bool (Kd.pair (Kd.slice 9 Kd.string) k29)) (fun x:PV=>(x.f0,x.f1,x.f2))
theorem QT {w:World} {x:PV} {cs:List Value} (h:k31.K w x cs):∃ A1 c1,cs= [.bool x.f0,.slice A1 x.f1.length c1,.string x.f2.f0,.string x.f2.f1,.bool x.f2.f2]∧x.f1.length≤c1∧Kd.string.C w A1 x.f1.length x.f1:=by
 obtain ⟨_,_,rfl,rfl,⟨_,_,rfl,⟨A1,c1,rfl,l1,g1⟩,s2⟩⟩:=h
 obtain rfl:=H6 s2
 exact ⟨A1,c1,rfl,l1,g1⟩
theorem Pb {w:World} {base:Nat} {ok:Nat→Prop} {x:PV} {cs:List Value} (h:k31.M w base ok x cs):∃ v1,cs= [.bool x.f0,v1,.string x.f2.f0,.string x.f2.f1,.bool x.f2.f2]∧Kd.string.R 9 w base ok v1 x.f1:=by
 obtain ⟨_,_,rfl,rfl,⟨_,_,rfl,⟨v1,rfl,g1⟩,s2⟩⟩:=h
 obtain rfl:=CB s2
 exact ⟨v1,rfl,g1⟩
theorem Uq (w:World) (base:Nat) (ok:Nat→Prop) (x:PV) {v1:Value} (g1:Kd.string.R 9 w base ok v1 x.f1):k31.M w base ok x [.bool x.f0,v1,.string x.f2.f0,.string x.f2.f1,.bool x.f2.f2]:=⟨[.bool x.f0],[v1,.string x.f2.f0,.string x.f2.f1,.bool x.f2.f2],rfl,rfl,⟨[v1],[.string x.f2.f0,.string x.f2.f1,.bool x.f2.f2],rfl,⟨v1,rfl,g1⟩,(Ld w base ok x.f2)⟩⟩
structure qV where
 f0:Int
 f1:PV
 f2:(List iN)
 f3:(List Int)
 f4:Int
def z34:qV:=⟨(0:Int),z31,([]:List iN),([]:List Int),(0:Int)⟩
def Cb:Kd qV:=Kd.iso (Kd.pair (Kd.int .i64) (Kd.pair k31 (Kd.pair (Kd.slice 37 mV) (Kd.pair (Kd.slice 5 (Kd.int .u8)) (Kd.int .i64))))) (fun x:qV=>(x.f0,x.f1,x.f2,x.f3,x.f4))
theorem QU {w:World} {x:qV} {cs:List Value} (h:Cb.K w x cs):∃ A2 c2 A6 c6 A7 c7,cs= [.int .i64 x.f0,.bool x.f1.f0,.slice A2 x.f1.f1.length c2,.string x.f1.f2.f0,.string x.f1.f2.f1,.bool x.f1.f2.f2,.slice A6 x.f2.length c6,.slice A7 x.f3.length c7,.int .i64 x.f4]∧x.f1.f1.length≤c2∧Kd.string.C w A2 x.f1.f1.length x.f1.f1∧x.f2.length≤c6∧mV.C w A6 x.f2.length x.f2∧x.f3.length≤c7∧(Kd.int .u8).C w A7 x.f3.length x.f3:=by
 obtain ⟨_,_,rfl,rfl,⟨_,_,rfl,s1,⟨_,_,rfl,⟨A6,c6,rfl,l6,g6⟩,⟨_,_,rfl,⟨A7,c7,rfl,l7,g7⟩,rfl⟩⟩⟩⟩:=h
 obtain ⟨A2,c2,rfl,l2,g2⟩:=QT s1
 exact ⟨A2,c2,A6,c6,A7,c7,rfl,l2,g2,l6,g6,l7,g7⟩
theorem sF {w:World} {base:Nat} {ok:Nat→Prop} {x:qV} {cs:List Value} (h:Cb.M w base ok x cs):∃ v2 v6 v7,cs= [.int .i64 x.f0,.bool x.f1.f0,v2,.string x.f1.f2.f0,.string x.f1.f2.f1,.bool x.f1.f2.f2,v6,v7,.int .i64 x.f4]∧Kd.string.R 9 w base ok v2 x.f1.f1∧mV.R 37 w base ok v6 x.f2∧(Kd.int .u8).R 5 w base ok v7 x.f3:=by
 obtain ⟨_,_,rfl,rfl,⟨_,_,rfl,s1,⟨_,_,rfl,⟨v6,rfl,g6⟩,⟨_,_,rfl,⟨v7,rfl,g7⟩,rfl⟩⟩⟩⟩:=h
 obtain ⟨v2,rfl,g2⟩:=Pb s1
 exact ⟨v2,v6,v7,rfl,g2,g6,g7⟩
theorem Dc (w:World) (base:Nat) (ok:Nat→Prop) (x:qV) {v2:Value} (g2:Kd.string.R 9 w base ok v2 x.f1.f1) {v6:Value} (g6:mV.R 37 w base ok v6 x.f2) {v7:Value} (g7:(Kd.int .u8).R 5 w base ok v7 x.f3):Cb.M w base ok x [.int .i64 x.f0,.bool x.f1.f0,v2,.string x.f1.f2.f0,.string x.f1.f2.f1,.bool x.f1.f2.f2,v6,v7,.int .i64 x.f4]:=⟨[.int .i64 x.f0],[.bool x.f1.f0,v2,.string x.f1.f2.f0,.string x.f1.f2.f1,.bool x.f1.f2.f2,v6,v7,.int .i64 x.f4],rfl,rfl,⟨[.bool x.f1.f0,v2,.string x.f1.f2.f0,.string x.f1.f2.f1,.bool x.f1.f2.f2],[v6,v7,.int .i64 x.f4],rfl,(Uq w base ok x.f1 g2),⟨[v6],[v7,.int .i64 x.f4],rfl,⟨v6,rfl,g6⟩,⟨[v7],[.int .i64 x.f4],rfl,⟨v7,rfl,g7⟩,rfl⟩⟩⟩⟩
def av (xs:List qV) (i:Int):qV:=xs.getD i.toNat z34
theorem uP {w:World} {A:Option Addr} {n:Nat} {xs:List qV} (h:Kd.C Cb w A n xs) (i:Int) (h0: 0≤i) (h1:i < n):∃ ad A2 c2 A6 c6 A7 c7,A=some ad∧w.cell? (ad.add (i.toNat * 9))=some (.int .i64 (av xs i).f0)∧w.cell? ⟨(ad.add (i.toNat * 9)).block,(ad.add (i.toNat * 9)).off + 1,none⟩=some (.bool (av xs i).f1.f0)∧w.cell? ⟨(ad.add (i.toNat * 9)).block,(ad.add (i.toNat * 9)).off + 2,none⟩=some (.slice A2 (av xs i).f1.f1.length c2)∧w.cell? ⟨(ad.add (i.toNat * 9)).block,(ad.add (i.toNat * 9)).off + 3,none⟩=some (.string (av xs i).f1.f2.f0)∧w.cell? ⟨(ad.add (i.toNat * 9)).block,(ad.add (i.toNat * 9)).off + 4,none⟩=some (.string (av xs i).f1.f2.f1)∧w.cell? ⟨(ad.add (i.toNat * 9)).block,(ad.add (i.toNat * 9)).off + 5,none⟩=some (.bool (av xs i).f1.f2.f2)∧w.cell? ⟨(ad.add (i.toNat * 9)).block,(ad.add (i.toNat * 9)).off + 6,none⟩=some (.slice A6 (av xs i).f2.length c6)∧w.cell? ⟨(ad.add (i.toNat * 9)).block,(ad.add (i.toNat * 9)).off + 7,none⟩=some (.slice A7 (av xs i).f3.length c7)∧w.cell? ⟨(ad.add (i.toNat * 9)).block,(ad.add (i.toNat * 9)).off + 8,none⟩=some (.int .i64 (av xs i).f4)∧(av xs i).f1.f1.length≤c2∧Kd.string.C w A2 (av xs i).f1.f1.length (av xs i).f1.f1∧(av xs i).f2.length≤c6∧mV.C w A6 (av xs i).f2.length (av xs i).f2∧(av xs i).f3.length≤c7∧(Kd.int .u8).C w A7 (av xs i).f3.length (av xs i).f3:=by
 obtain ⟨ad,c,e,_,hK,hc0⟩:=Kd.aa6 h z34 i h0 h1
 have hc:∀ j u,c[j]? =some u→w.cell? (ad.add (i.toNat * 9 + j))=some u:=hc0
 obtain ⟨A2,c2,A6,c6,A7,c7,rfl,l2,g2,l6,g6,l7,g7⟩:=QU hK
 exact ⟨ad,A2,c2,A6,c6,A7,c7,e,hc 0 _ rfl,by rw [← eT _ _ 1 ay];exact hc 1 _ rfl,by rw [← eT _ _ 2 ay];exact hc 2 _ rfl,by rw [← eT _ _ 3 ay];exact hc 3 _ rfl,by rw [← eT _ _ 4 ay];exact hc 4 _ rfl,by rw [← eT _ _ 5 ay];exact hc 5 _ rfl,by rw [← eT _ _ 6 ay];exact hc 6 _ rfl,by rw [← eT _ _ 7 ay];exact hc 7 _ rfl,by rw [← eT _ _ 8 ay];exact hc 8 _ rfl,l2,g2,l6,g6,l7,g7⟩
structure S40 where
 f0:Int
 f1:(List qV)
structure S46 where
 f0:Int
 f1:Int
 f2:Int
 f3:Int
 f4:qV
def z46:S46:=⟨(0:Int),(0:Int),(0:Int),(0:Int),z34⟩
end Go.Proofs.YtbjjaaodfbjkfaaGreatDoor.qb
