import Derived.Test.YtbjjaaodfbjkfaaGreatDoorZo
import Derived.Test.YtbjjaaodfbjkfaaGreatDoorWTab
import Derived.Test.YtbjjaaodfbjkfaaGreatDoorWEqStruct
import Derived.Test.YtbjjaaodfbjkfaaGreatDoorWGuard
import Derived.Test.YtbjjaaodfbjkfaaGreatDoorWMore
namespace Go.Proofs.YtbjjaaodfbjkfaaGreatDoor.ow
open Go.RowKit Go.Proofs.ak.bY Go.Proofs.ak.dU Go.Proofs.ak.dJ
attribute [local go_sem] jt ju kH kI iw iy jv jw
set_option linter.unusedVariables false
set_option linter.unusedSimpArgs false
theorem info3:(Tryz.prog.info? 3).map (fun i=>(i.zero,i.size,i.bytes))=some (some (.int .i64 0),1,8):=by kernel_rfl
theorem aeG:(Tryz.prog.info? 5).map (fun i=>(i.zero,i.size,i.bytes))=some (some (.int .u8 0),1,1):=by kernel_rfl
theorem aiV:(Tryz.prog.info? 9).map (fun i=>(i.zero,i.size,i.bytes))=some (some (.string ⟨#[]⟩),1,16):=by kernel_rfl
theorem afT:(Tryz.prog.info? 34).map (fun i=>(i.zero,i.size,i.bytes))=some (some (.agg #[(.int .i64 0),(.bool false),(.slice none 0 0),(.string ⟨#[]⟩),(.string ⟨#[]⟩),(.bool false),(.slice none 0 0),(.slice none 0 0),(.int .i64 0)]),9,136):=by kernel_rfl
theorem NU:(Tryz.prog.info? 37).map (fun i=>(i.zero,i.size,i.bytes))=some (some (.agg #[(.string ⟨#[]⟩),(.string ⟨#[]⟩),(.bool false),(.int .u8 0),(.int .i64 0),(.int .i64 0)]),6,64):=by kernel_rfl
theorem afU:(Tryz.prog.info? 46).map (fun i=>(i.zero,i.size,i.bytes))=some (some (.agg #[(.int .u8 0),(.int .i64 0),(.int .i64 0),(.int .i64 0),(.int .i64 0),(.bool false),(.slice none 0 0),(.string ⟨#[]⟩),(.string ⟨#[]⟩),(.bool false),(.slice none 0 0),(.slice none 0 0),(.int .i64 0)]),13,168):=by kernel_rfl
theorem WT:(Tryz.prog.info? 63).map (fun i=>(i.zero,i.size,i.bytes))=some (some (.agg #[(.int .i64 0),(.int .i64 0)]),2,16):=by kernel_rfl
structure GI where
 f0:ByteArray
 f1:ByteArray
 f2:Bool
def z29:GI:=⟨(⟨#[]⟩:ByteArray),(⟨#[]⟩:ByteArray),false⟩
def k29:Kd GI:=Kd.iso (Kd.pair Kd.string (Kd.pair Kd.string Kd.bool)) (fun x:GI=>(x.f0,x.f1,x.f2))
theorem LP {w:World} {x:GI} {cs:List Value} (h:k29.K w x cs):cs= [.string x.f0,.string x.f1,.bool x.f2]:=by
 obtain ⟨_,_,rfl,rfl,⟨_,_,rfl,rfl,rfl⟩⟩:=h
 exact rfl
theorem GJ {w:World} {base:Nat} {ok:Nat→Prop} {x:GI} {cs:List Value} (h:k29.M w base ok x cs):cs= [.string x.f0,.string x.f1,.bool x.f2]:=by
 obtain ⟨_,_,rfl,rfl,⟨_,_,rfl,rfl,rfl⟩⟩:=h
 exact rfl
theorem Qf (w:World) (base:Nat) (ok:Nat→Prop) (x:GI):k29.M w base ok x [.string x.f0,.string x.f1,.bool x.f2]:=⟨[.string x.f0],[.string x.f1,.bool x.f2],rfl,rfl,⟨[.string x.f1],[.bool x.f2],rfl,rfl,rfl⟩⟩
structure jN where
 f0:GI
 f1:Int
 f2:Int
 f3:Int
def z37:jN:=⟨z29,(0:Int),(0:Int),(0:Int)⟩
def sN:Kd jN:=Kd.iso (Kd.pair k29 (Kd.pair (Kd.int .u8) (Kd.pair (Kd.int .i64) (Kd.int .i64)))) (fun x:jN=>(x.f0,x.f1,x.f2,x.f3))
theorem LQ {w:World} {x:jN} {cs:List Value} (h:sN.K w x cs):cs= [.string x.f0.f0,.string x.f0.f1,.bool x.f0.f2,.int .u8 x.f1,.int .i64 x.f2,.int .i64 x.f3]:=by
 obtain ⟨_,_,rfl,s0,⟨_,_,rfl,rfl,⟨_,_,rfl,rfl,rfl⟩⟩⟩:=h
 obtain rfl:=LP s0
 exact rfl
theorem UM {w:World} {base:Nat} {ok:Nat→Prop} {x:jN} {cs:List Value} (h:sN.M w base ok x cs):cs= [.string x.f0.f0,.string x.f0.f1,.bool x.f0.f2,.int .u8 x.f1,.int .i64 x.f2,.int .i64 x.f3]:=by
 obtain ⟨_,_,rfl,s0,⟨_,_,rfl,rfl,⟨_,_,rfl,rfl,rfl⟩⟩⟩:=h
 obtain rfl:=GJ s0
 exact rfl
theorem Dk (w:World) (base:Nat) (ok:Nat→Prop) (x:jN):sN.M w base ok x [.string x.f0.f0,.string x.f0.f1,.bool x.f0.f2,.int .u8 x.f1,.int .i64 x.f2,.int .i64 x.f3]:=⟨[.string x.f0.f0,.string x.f0.f1,.bool x.f0.f2],[.int .u8 x.f1,.int .i64 x.f2,.int .i64 x.f3],rfl,(Qf w base ok x.f0),⟨[.int .u8 x.f1],[.int .i64 x.f2,.int .i64 x.f3],rfl,rfl,⟨[.int .i64 x.f2],[.int .i64 x.f3],rfl,rfl,rfl⟩⟩⟩
def bn (xs:List jN) (i:Int):jN:=xs.getD i.toNat z37
theorem pz {w:World} {A:Option Addr} {n:Nat} {xs:List jN} (h:Kd.C sN w A n xs) (i:Int) (h0: 0≤i) (h1:i < n):∃ ad,A=some ad∧w.cell? (ad.add (i.toNat * 6))=some (.string (bn xs i).f0.f0)∧w.cell? ⟨(ad.add (i.toNat * 6)).block,(ad.add (i.toNat * 6)).off + 1,none⟩=some (.string (bn xs i).f0.f1)∧w.cell? ⟨(ad.add (i.toNat * 6)).block,(ad.add (i.toNat * 6)).off + 2,none⟩=some (.bool (bn xs i).f0.f2)∧w.cell? ⟨(ad.add (i.toNat * 6)).block,(ad.add (i.toNat * 6)).off + 3,none⟩=some (.int .u8 (bn xs i).f1)∧w.cell? ⟨(ad.add (i.toNat * 6)).block,(ad.add (i.toNat * 6)).off + 4,none⟩=some (.int .i64 (bn xs i).f2)∧w.cell? ⟨(ad.add (i.toNat * 6)).block,(ad.add (i.toNat * 6)).off + 5,none⟩=some (.int .i64 (bn xs i).f3):=by
 obtain ⟨ad,c,e,_,hK,hc0⟩:=Kd.P8 h z37 i h0 h1
 have hc:∀ j u,c[j]? =some u→w.cell? (ad.add (i.toNat * 6 + j))=some u:=hc0
 obtain rfl:=LQ hK
 exact ⟨ad,e,hc 0 _ rfl,Dd,Ie,Ig,Ih,Ii⟩
structure VS where
 f0:Bool
 f1:(List ByteArray)
 f2:GI
def z31:VS:=⟨false,([]:List ByteArray),z29⟩
def k31:Kd VS:=Kd.iso (Kd.pair Kd.bool (Kd.pair (Kd.slice 9 Kd.string) k29)) (fun x:VS=>(x.f0,x.f1,x.f2))
theorem WU {w:World} {x:VS} {cs:List Value} (h:k31.K w x cs):∃ A1 c1,cs= [.bool x.f0,.slice A1 x.f1.length c1,.string x.f2.f0,.string x.f2.f1,.bool x.f2.f2]∧x.f1.length≤c1∧Kd.string.C w A1 x.f1.length x.f1:=by
 obtain ⟨_,_,rfl,rfl,⟨_,_,rfl,⟨A1,c1,rfl,l1,g1⟩,s2⟩⟩:=h
 obtain rfl:=LP s2
 exact ⟨A1,c1,rfl,l1,g1⟩
theorem UN {w:World} {base:Nat} {ok:Nat→Prop} {x:VS} {cs:List Value} (h:k31.M w base ok x cs):∃ v1,cs= [.bool x.f0,v1,.string x.f2.f0,.string x.f2.f1,.bool x.f2.f2]∧Kd.string.R 9 w base ok v1 x.f1:=by
 obtain ⟨_,_,rfl,rfl,⟨_,_,rfl,⟨v1,rfl,g1⟩,s2⟩⟩:=h
 obtain rfl:=GJ s2
 exact ⟨v1,rfl,g1⟩
theorem Zm (w:World) (base:Nat) (ok:Nat→Prop) (x:VS) {v1:Value} (g1:Kd.string.R 9 w base ok v1 x.f1):k31.M w base ok x [.bool x.f0,v1,.string x.f2.f0,.string x.f2.f1,.bool x.f2.f2]:=⟨[.bool x.f0],[v1,.string x.f2.f0,.string x.f2.f1,.bool x.f2.f2],rfl,rfl,⟨[v1],[.string x.f2.f0,.string x.f2.f1,.bool x.f2.f2],rfl,⟨v1,rfl,g1⟩,(Qf w base ok x.f2)⟩⟩
structure pO where
 f0:Int
 f1:VS
 f2:(List jN)
 f3:(List Int)
 f4:Int
def z34:pO:=⟨(0:Int),z31,([]:List jN),([]:List Int),(0:Int)⟩
def Bz:Kd pO:=Kd.iso (Kd.pair (Kd.int .i64) (Kd.pair k31 (Kd.pair (Kd.slice 37 sN) (Kd.pair (Kd.slice 5 (Kd.int .u8)) (Kd.int .i64))))) (fun x:pO=>(x.f0,x.f1,x.f2,x.f3,x.f4))
theorem LR {w:World} {x:pO} {cs:List Value} (h:Bz.K w x cs):∃ A2 c2 A6 c6 A7 c7,cs= [.int .i64 x.f0,.bool x.f1.f0,.slice A2 x.f1.f1.length c2,.string x.f1.f2.f0,.string x.f1.f2.f1,.bool x.f1.f2.f2,.slice A6 x.f2.length c6,.slice A7 x.f3.length c7,.int .i64 x.f4]∧x.f1.f1.length≤c2∧Kd.string.C w A2 x.f1.f1.length x.f1.f1∧x.f2.length≤c6∧sN.C w A6 x.f2.length x.f2∧x.f3.length≤c7∧(Kd.int .u8).C w A7 x.f3.length x.f3:=by
 obtain ⟨_,_,rfl,rfl,⟨_,_,rfl,s1,⟨_,_,rfl,⟨A6,c6,rfl,l6,g6⟩,⟨_,_,rfl,⟨A7,c7,rfl,l7,g7⟩,rfl⟩⟩⟩⟩:=h
 obtain ⟨A2,c2,rfl,l2,g2⟩:=WU s1
 exact ⟨A2,c2,A6,c6,A7,c7,rfl,l2,g2,l6,g6,l7,g7⟩
theorem GK {w:World} {base:Nat} {ok:Nat→Prop} {x:pO} {cs:List Value} (h:Bz.M w base ok x cs):∃ v2 v6 v7,cs= [.int .i64 x.f0,.bool x.f1.f0,v2,.string x.f1.f2.f0,.string x.f1.f2.f1,.bool x.f1.f2.f2,v6,v7,.int .i64 x.f4]∧Kd.string.R 9 w base ok v2 x.f1.f1∧sN.R 37 w base ok v6 x.f2∧(Kd.int .u8).R 5 w base ok v7 x.f3:=by
 obtain ⟨_,_,rfl,rfl,⟨_,_,rfl,s1,⟨_,_,rfl,⟨v6,rfl,g6⟩,⟨_,_,rfl,⟨v7,rfl,g7⟩,rfl⟩⟩⟩⟩:=h
 obtain ⟨v2,rfl,g2⟩:=UN s1
 exact ⟨v2,v6,v7,rfl,g2,g6,g7⟩
theorem IA (w:World) (base:Nat) (ok:Nat→Prop) (x:pO) {v2:Value} (g2:Kd.string.R 9 w base ok v2 x.f1.f1) {v6:Value} (g6:sN.R 37 w base ok v6 x.f2) {v7:Value} (g7:(Kd.int .u8).R 5 w base ok v7 x.f3):Bz.M w base ok x [.int .i64 x.f0,.bool x.f1.f0,v2,.string x.f1.f2.f0,.string x.f1.f2.f1,.bool x.f1.f2.f2,v6,v7,.int .i64 x.f4]:=⟨[.int .i64 x.f0],[.bool x.f1.f0,v2,.string x.f1.f2.f0,.string x.f1.f2.f1,.bool x.f1.f2.f2,v6,v7,.int .i64 x.f4],rfl,rfl,⟨[.bool x.f1.f0,v2,.string x.f1.f2.f0,.string x.f1.f2.f1,.bool x.f1.f2.f2],[v6,v7,.int .i64 x.f4],rfl,(Zm w base ok x.f1 g2),⟨[v6],[v7,.int .i64 x.f4],rfl,⟨v6,rfl,g6⟩,⟨[v7],[.int .i64 x.f4],rfl,⟨v7,rfl,g7⟩,rfl⟩⟩⟩⟩
def aj (xs:List pO) (i:Int):pO:=xs.getD i.toNat z34
theorem tX {w:World} {A:Option Addr} {n:Nat} {xs:List pO} (h:Kd.C Bz w A n xs) (i:Int) (h0: 0≤i) (h1:i < n):∃ ad A2 c2 A6 c6 A7 c7,A=some ad∧w.cell? (ad.add (i.toNat * 9))=some (.int .i64 (aj xs i).f0)∧w.cell? ⟨(ad.add (i.toNat * 9)).block,(ad.add (i.toNat * 9)).off + 1,none⟩=some (.bool (aj xs i).f1.f0)∧w.cell? ⟨(ad.add (i.toNat * 9)).block,(ad.add (i.toNat * 9)).off + 2,none⟩=some (.slice A2 (aj xs i).f1.f1.length c2)∧w.cell? ⟨(ad.add (i.toNat * 9)).block,(ad.add (i.toNat * 9)).off + 3,none⟩=some (.string (aj xs i).f1.f2.f0)∧w.cell? ⟨(ad.add (i.toNat * 9)).block,(ad.add (i.toNat * 9)).off + 4,none⟩=some (.string (aj xs i).f1.f2.f1)∧w.cell? ⟨(ad.add (i.toNat * 9)).block,(ad.add (i.toNat * 9)).off + 5,none⟩=some (.bool (aj xs i).f1.f2.f2)∧w.cell? ⟨(ad.add (i.toNat * 9)).block,(ad.add (i.toNat * 9)).off + 6,none⟩=some (.slice A6 (aj xs i).f2.length c6)∧w.cell? ⟨(ad.add (i.toNat * 9)).block,(ad.add (i.toNat * 9)).off + 7,none⟩=some (.slice A7 (aj xs i).f3.length c7)∧w.cell? ⟨(ad.add (i.toNat * 9)).block,(ad.add (i.toNat * 9)).off + 8,none⟩=some (.int .i64 (aj xs i).f4)∧(aj xs i).f1.f1.length≤c2∧Kd.string.C w A2 (aj xs i).f1.f1.length (aj xs i).f1.f1∧(aj xs i).f2.length≤c6∧sN.C w A6 (aj xs i).f2.length (aj xs i).f2∧(aj xs i).f3.length≤c7∧(Kd.int .u8).C w A7 (aj xs i).f3.length (aj xs i).f3:=by
 obtain ⟨ad,c,e,_,hK,hc0⟩:=Kd.P8 h z34 i h0 h1
 have hc:∀ j u,c[j]? =some u→w.cell? (ad.add (i.toNat * 9 + j))=some u:=hc0
 obtain ⟨A2,c2,A6,c6,A7,c7,rfl,l2,g2,l6,g6,l7,g7⟩:=LR hK
 exact ⟨ad,A2,c2,A6,c6,A7,c7,e,hc 0 _ rfl,Dd,Ie,Ig,Ih,Ii,by rw [← iH _ _ 6 aA];exact hc 6 _ rfl,by rw [← iH _ _ 7 aA];exact hc 7 _ rfl,by rw [← iH _ _ 8 aA];exact hc 8 _ rfl,l2,g2,l6,g6,l7,g7⟩
structure S40 where
 f0:Int
 f1:(List pO)
structure NV where
 f0:Int
 f1:Int
 f2:Int
 f3:Int
 f4:pO
def z46:NV:=⟨(0:Int),(0:Int),(0:Int),(0:Int),z34⟩
def k46:Kd NV:=Kd.iso (Kd.pair (Kd.int .u8) (Kd.pair (Kd.int .i64) (Kd.pair (Kd.int .i64) (Kd.pair (Kd.int .i64) Bz)))) (fun x:NV=>(x.f0,x.f1,x.f2,x.f3,x.f4))
theorem WV {w:World} {x:NV} {cs:List Value} (h:k46.K w x cs):∃ A6 c6 UO c10 LS c11,cs= [.int .u8 x.f0,.int .i64 x.f1,.int .i64 x.f2,.int .i64 x.f3,.int .i64 x.f4.f0,.bool x.f4.f1.f0,.slice A6 x.f4.f1.f1.length c6,.string x.f4.f1.f2.f0,.string x.f4.f1.f2.f1,.bool x.f4.f1.f2.f2,.slice UO x.f4.f2.length c10,.slice LS x.f4.f3.length c11,.int .i64 x.f4.f4]∧x.f4.f1.f1.length≤c6∧Kd.string.C w A6 x.f4.f1.f1.length x.f4.f1.f1∧x.f4.f2.length≤c10∧sN.C w UO x.f4.f2.length x.f4.f2∧x.f4.f3.length≤c11∧(Kd.int .u8).C w LS x.f4.f3.length x.f4.f3:=by
 obtain ⟨_,_,rfl,rfl,⟨_,_,rfl,rfl,⟨_,_,rfl,rfl,⟨_,_,rfl,rfl,s4⟩⟩⟩⟩:=h
 obtain ⟨A6,c6,UO,c10,LS,c11,rfl,l6,g6,l10,g10,l11,g11⟩:=LR s4
 exact ⟨A6,c6,UO,c10,LS,c11,rfl,l6,g6,l10,g10,l11,g11⟩
def bM (xs:List NV) (i:Int):NV:=xs.getD i.toNat z46
theorem afV {w:World} {A:Option Addr} {n:Nat} {xs:List NV} (h:Kd.C k46 w A n xs) (i:Int) (h0: 0≤i) (h1:i < n):∃ ad A6 c6 UO c10 LS c11,A=some ad∧w.cell? (ad.add (i.toNat * 13))=some (.int .u8 (bM xs i).f0)∧w.cell? ⟨(ad.add (i.toNat * 13)).block,(ad.add (i.toNat * 13)).off + 1,none⟩=some (.int .i64 (bM xs i).f1)∧w.cell? ⟨(ad.add (i.toNat * 13)).block,(ad.add (i.toNat * 13)).off + 2,none⟩=some (.int .i64 (bM xs i).f2)∧w.cell? ⟨(ad.add (i.toNat * 13)).block,(ad.add (i.toNat * 13)).off + 3,none⟩=some (.int .i64 (bM xs i).f3)∧w.cell? ⟨(ad.add (i.toNat * 13)).block,(ad.add (i.toNat * 13)).off + 4,none⟩=some (.int .i64 (bM xs i).f4.f0)∧w.cell? ⟨(ad.add (i.toNat * 13)).block,(ad.add (i.toNat * 13)).off + 5,none⟩=some (.bool (bM xs i).f4.f1.f0)∧w.cell? ⟨(ad.add (i.toNat * 13)).block,(ad.add (i.toNat * 13)).off + 6,none⟩=some (.slice A6 (bM xs i).f4.f1.f1.length c6)∧w.cell? ⟨(ad.add (i.toNat * 13)).block,(ad.add (i.toNat * 13)).off + 7,none⟩=some (.string (bM xs i).f4.f1.f2.f0)∧w.cell? ⟨(ad.add (i.toNat * 13)).block,(ad.add (i.toNat * 13)).off + 8,none⟩=some (.string (bM xs i).f4.f1.f2.f1)∧w.cell? ⟨(ad.add (i.toNat * 13)).block,(ad.add (i.toNat * 13)).off + 9,none⟩=some (.bool (bM xs i).f4.f1.f2.f2)∧w.cell? ⟨(ad.add (i.toNat * 13)).block,(ad.add (i.toNat * 13)).off + 10,none⟩=some (.slice UO (bM xs i).f4.f2.length c10)∧w.cell? ⟨(ad.add (i.toNat * 13)).block,(ad.add (i.toNat * 13)).off + 11,none⟩=some (.slice LS (bM xs i).f4.f3.length c11)∧w.cell? ⟨(ad.add (i.toNat * 13)).block,(ad.add (i.toNat * 13)).off + 12,none⟩=some (.int .i64 (bM xs i).f4.f4)∧(bM xs i).f4.f1.f1.length≤c6∧Kd.string.C w A6 (bM xs i).f4.f1.f1.length (bM xs i).f4.f1.f1∧(bM xs i).f4.f2.length≤c10∧sN.C w UO (bM xs i).f4.f2.length (bM xs i).f4.f2∧(bM xs i).f4.f3.length≤c11∧(Kd.int .u8).C w LS (bM xs i).f4.f3.length (bM xs i).f4.f3:=by
 obtain ⟨ad,c,e,_,hK,hc0⟩:=Kd.P8 h z46 i h0 h1
 have hc:∀ j u,c[j]? =some u→w.cell? (ad.add (i.toNat * 13 + j))=some u:=hc0
 obtain ⟨A6,c6,UO,c10,LS,c11,rfl,l6,g6,l10,g10,l11,g11⟩:=WV hK
 exact ⟨ad,A6,c6,UO,c10,LS,c11,e,hc 0 _ rfl,Dd,Ie,Ig,Ih,Ii,by rw [← iH _ _ 6 aA];exact hc 6 _ rfl,by rw [← iH _ _ 7 aA];exact hc 7 _ rfl,by rw [← iH _ _ 8 aA];exact hc 8 _ rfl,by rw [← iH _ _ 9 aA];exact hc 9 _ rfl,by rw [← iH _ _ 10 aA];exact hc 10 _ rfl,by rw [← iH _ _ 11 aA];exact hc 11 _ rfl,by rw [← iH _ _ 12 aA];exact hc 12 _ rfl,l6,g6,l10,g10,l11,g11⟩
structure sO where
 f0:Int
 f1:Int
def z63:sO:=⟨(0:Int),(0:Int)⟩
def NW:Kd sO:=Kd.iso (Kd.pair (Kd.int .i64) (Kd.int .i64)) (fun x:sO=>(x.f0,x.f1))
theorem WW {w:World} {x:sO} {cs:List Value} (h:NW.K w x cs):cs= [.int .i64 x.f0,.int .i64 x.f1]:=by
 obtain ⟨_,_,rfl,rfl,rfl⟩:=h
 exact rfl
theorem Qg (w:World) (base:Nat) (ok:Nat→Prop) (x:sO):NW.M w base ok x [.int .i64 x.f0,.int .i64 x.f1]:=⟨[.int .i64 x.f0],[.int .i64 x.f1],rfl,rfl,rfl⟩
def cT (xs:List sO) (i:Int):sO:=xs.getD i.toNat z63
theorem tY {w:World} {A:Option Addr} {n:Nat} {xs:List sO} (h:Kd.C NW w A n xs) (i:Int) (h0: 0≤i) (h1:i < n):∃ ad,A=some ad∧w.cell? (ad.add (i.toNat * 2))=some (.int .i64 (cT xs i).f0)∧w.cell? ⟨(ad.add (i.toNat * 2)).block,(ad.add (i.toNat * 2)).off + 1,none⟩=some (.int .i64 (cT xs i).f1):=by
 obtain ⟨ad,c,e,_,hK,hc0⟩:=Kd.P8 h z63 i h0 h1
 have hc:∀ j u,c[j]? =some u→w.cell? (ad.add (i.toNat * 2 + j))=some u:=hc0
 obtain rfl:=WW hK
 exact ⟨ad,e,hc 0 _ rfl,Dd⟩
end Go.Proofs.YtbjjaaodfbjkfaaGreatDoor.ow
