import Derived.Test.YtbjjaaodfbjkfaaGreatDoorZo
import Derived.Test.YtbjjaaodfbjkfaaGreatDoorWTab
import Derived.Test.YtbjjaaodfbjkfaaGreatDoorWEqStruct
import Derived.Test.YtbjjaaodfbjkfaaGreatDoorWGuard
import Derived.Test.YtbjjaaodfbjkfaaGreatDoorWMore
namespace Go.Proofs.YtbjjaaodfbjkfaaGreatDoor.mU
open Go.RowKit Go.Proofs.ak.bR Go.Proofs.ak.dz Go.Proofs.ak.cZ
attribute [local go_sem] iR iT jW jX gW gX jh ji
set_option linter.unusedVariables false
set_option linter.unusedSimpArgs false
theorem info3:(Tryz.prog.info? 3).map (fun i=>(i.zero,i.size,i.bytes))=some (some (.int .i64 0),1,8):=by kernel_rfl
theorem abg:(Tryz.prog.info? 5).map (fun i=>(i.zero,i.size,i.bytes))=some (some (.int .u8 0),1,1):=by kernel_rfl
theorem afp:(Tryz.prog.info? 9).map (fun i=>(i.zero,i.size,i.bytes))=some (some (.string ⟨#[]⟩),1,16):=by kernel_rfl
theorem acy:(Tryz.prog.info? 34).map (fun i=>(i.zero,i.size,i.bytes))=some (some (.agg #[(.int .i64 0),(.bool false),(.slice none 0 0),(.string ⟨#[]⟩),(.string ⟨#[]⟩),(.bool false),(.slice none 0 0),(.slice none 0 0),(.int .i64 0)]),9,136):=by kernel_rfl
theorem Mn:(Tryz.prog.info? 37).map (fun i=>(i.zero,i.size,i.bytes))=some (some (.agg #[(.string ⟨#[]⟩),(.string ⟨#[]⟩),(.bool false),(.int .u8 0),(.int .i64 0),(.int .i64 0)]),6,64):=by kernel_rfl
theorem acz:(Tryz.prog.info? 63).map (fun i=>(i.zero,i.size,i.bytes))=some (some (.agg #[(.int .i64 0),(.int .i64 0)]),2,16):=by kernel_rfl
structure Fu where
 f0:ByteArray
 f1:ByteArray
 f2:Bool
def z29:Fu:=⟨(⟨#[]⟩:ByteArray),(⟨#[]⟩:ByteArray),false⟩
def k29:Kd Fu:=Kd.iso (Kd.pair Kd.string (Kd.pair Kd.string Kd.bool)) (fun x:Fu=>(x.f0,x.f1,x.f2))
theorem Kz {w:World} {x:Fu} {cs:List Value} (h:k29.K w x cs):cs= [.string x.f0,.string x.f1,.bool x.f2]:=by
 obtain ⟨_,_,rfl,rfl,⟨_,_,rfl,rfl,rfl⟩⟩:=h
 exact rfl
theorem Fv {w:World} {base:Nat} {ok:Nat→Prop} {x:Fu} {cs:List Value} (h:k29.M w base ok x cs):cs= [.string x.f0,.string x.f1,.bool x.f2]:=by
 obtain ⟨_,_,rfl,rfl,⟨_,_,rfl,rfl,rfl⟩⟩:=h
 exact rfl
theorem Ob (w:World) (base:Nat) (ok:Nat→Prop) (x:Fu):k29.M w base ok x [.string x.f0,.string x.f1,.bool x.f2]:=⟨[.string x.f0],[.string x.f1,.bool x.f2],rfl,rfl,⟨[.string x.f1],[.bool x.f2],rfl,rfl,rfl⟩⟩
structure jM where
 f0:Fu
 f1:Int
 f2:Int
 f3:Int
def z37:jM:=⟨z29,(0:Int),(0:Int),(0:Int)⟩
def sM:Kd jM:=Kd.iso (Kd.pair k29 (Kd.pair (Kd.int .u8) (Kd.pair (Kd.int .i64) (Kd.int .i64)))) (fun x:jM=>(x.f0,x.f1,x.f2,x.f3))
theorem KA {w:World} {x:jM} {cs:List Value} (h:sM.K w x cs):cs= [.string x.f0.f0,.string x.f0.f1,.bool x.f0.f2,.int .u8 x.f1,.int .i64 x.f2,.int .i64 x.f3]:=by
 obtain ⟨_,_,rfl,s0,⟨_,_,rfl,rfl,⟨_,_,rfl,rfl,rfl⟩⟩⟩:=h
 obtain rfl:=Kz s0
 exact rfl
theorem Ro {w:World} {base:Nat} {ok:Nat→Prop} {x:jM} {cs:List Value} (h:sM.M w base ok x cs):cs= [.string x.f0.f0,.string x.f0.f1,.bool x.f0.f2,.int .u8 x.f1,.int .i64 x.f2,.int .i64 x.f3]:=by
 obtain ⟨_,_,rfl,s0,⟨_,_,rfl,rfl,⟨_,_,rfl,rfl,rfl⟩⟩⟩:=h
 obtain rfl:=Fv s0
 exact rfl
theorem Cz (w:World) (base:Nat) (ok:Nat→Prop) (x:jM):sM.M w base ok x [.string x.f0.f0,.string x.f0.f1,.bool x.f0.f2,.int .u8 x.f1,.int .i64 x.f2,.int .i64 x.f3]:=⟨[.string x.f0.f0,.string x.f0.f1,.bool x.f0.f2],[.int .u8 x.f1,.int .i64 x.f2,.int .i64 x.f3],rfl,(Ob w base ok x.f0),⟨[.int .u8 x.f1],[.int .i64 x.f2,.int .i64 x.f3],rfl,rfl,⟨[.int .i64 x.f2],[.int .i64 x.f3],rfl,rfl,rfl⟩⟩⟩
def bM (xs:List jM) (i:Int):jM:=xs.getD i.toNat z37
theorem nQ {w:World} {A:Option Addr} {n:Nat} {xs:List jM} (h:Kd.C sM w A n xs) (i:Int) (h0: 0≤i) (h1:i < n):∃ ad,A=some ad∧w.cell? (ad.add (i.toNat * 6))=some (.string (bM xs i).f0.f0)∧w.cell? ⟨(ad.add (i.toNat * 6)).block,(ad.add (i.toNat * 6)).off + 1,none⟩=some (.string (bM xs i).f0.f1)∧w.cell? ⟨(ad.add (i.toNat * 6)).block,(ad.add (i.toNat * 6)).off + 2,none⟩=some (.bool (bM xs i).f0.f2)∧w.cell? ⟨(ad.add (i.toNat * 6)).block,(ad.add (i.toNat * 6)).off + 3,none⟩=some (.int .u8 (bM xs i).f1)∧w.cell? ⟨(ad.add (i.toNat * 6)).block,(ad.add (i.toNat * 6)).off + 4,none⟩=some (.int .i64 (bM xs i).f2)∧w.cell? ⟨(ad.add (i.toNat * 6)).block,(ad.add (i.toNat * 6)).off + 5,none⟩=some (.int .i64 (bM xs i).f3):=by
 obtain ⟨ad,c,e,_,hK,hc0⟩:=Kd.N5 h z37 i h0 h1
 have hc:∀ j u,c[j]? =some u→w.cell? (ad.add (i.toNat * 6 + j))=some u:=hc0
 obtain rfl:=KA hK
 exact ⟨ad,e,hc 0 _ rfl,Cs,Gz,GA,GC,GD⟩
structure SB where
 f0:Bool
 f1:(List ByteArray)
 f2:Fu
def z31:SB:=⟨false,([]:List ByteArray),z29⟩
def k31:Kd SB:=Kd.iso (Kd.pair Kd.bool (Kd.pair (Kd.slice 9 Kd.string) k29)) (fun x:SB=>(x.f0,x.f1,x.f2))
theorem TH {w:World} {x:SB} {cs:List Value} (h:k31.K w x cs):∃ A1 c1,cs= [.bool x.f0,.slice A1 x.f1.length c1,.string x.f2.f0,.string x.f2.f1,.bool x.f2.f2]∧x.f1.length≤c1∧Kd.string.C w A1 x.f1.length x.f1:=by
 obtain ⟨_,_,rfl,rfl,⟨_,_,rfl,⟨A1,c1,rfl,l1,g1⟩,s2⟩⟩:=h
 obtain rfl:=Kz s2
 exact ⟨A1,c1,rfl,l1,g1⟩
theorem Rp {w:World} {base:Nat} {ok:Nat→Prop} {x:SB} {cs:List Value} (h:k31.M w base ok x cs):∃ v1,cs= [.bool x.f0,v1,.string x.f2.f0,.string x.f2.f1,.bool x.f2.f2]∧Kd.string.R 9 w base ok v1 x.f1:=by
 obtain ⟨_,_,rfl,rfl,⟨_,_,rfl,⟨v1,rfl,g1⟩,s2⟩⟩:=h
 obtain rfl:=Fv s2
 exact ⟨v1,rfl,g1⟩
theorem VN (w:World) (base:Nat) (ok:Nat→Prop) (x:SB) {v1:Value} (g1:Kd.string.R 9 w base ok v1 x.f1):k31.M w base ok x [.bool x.f0,v1,.string x.f2.f0,.string x.f2.f1,.bool x.f2.f2]:=⟨[.bool x.f0],[v1,.string x.f2.f0,.string x.f2.f1,.bool x.f2.f2],rfl,rfl,⟨[v1],[.string x.f2.f0,.string x.f2.f1,.bool x.f2.f2],rfl,⟨v1,rfl,g1⟩,(Ob w base ok x.f2)⟩⟩
structure pE where
 f0:Int
 f1:SB
 f2:(List jM)
 f3:(List Int)
 f4:Int
def z34:pE:=⟨(0:Int),z31,([]:List jM),([]:List Int),(0:Int)⟩
def Fw:Kd pE:=Kd.iso (Kd.pair (Kd.int .i64) (Kd.pair k31 (Kd.pair (Kd.slice 37 sM) (Kd.pair (Kd.slice 5 (Kd.int .u8)) (Kd.int .i64))))) (fun x:pE=>(x.f0,x.f1,x.f2,x.f3,x.f4))
theorem KB {w:World} {x:pE} {cs:List Value} (h:Fw.K w x cs):∃ A2 c2 A6 c6 A7 c7,cs= [.int .i64 x.f0,.bool x.f1.f0,.slice A2 x.f1.f1.length c2,.string x.f1.f2.f0,.string x.f1.f2.f1,.bool x.f1.f2.f2,.slice A6 x.f2.length c6,.slice A7 x.f3.length c7,.int .i64 x.f4]∧x.f1.f1.length≤c2∧Kd.string.C w A2 x.f1.f1.length x.f1.f1∧x.f2.length≤c6∧sM.C w A6 x.f2.length x.f2∧x.f3.length≤c7∧(Kd.int .u8).C w A7 x.f3.length x.f3:=by
 obtain ⟨_,_,rfl,rfl,⟨_,_,rfl,s1,⟨_,_,rfl,⟨A6,c6,rfl,l6,g6⟩,⟨_,_,rfl,⟨A7,c7,rfl,l7,g7⟩,rfl⟩⟩⟩⟩:=h
 obtain ⟨A2,c2,rfl,l2,g2⟩:=TH s1
 exact ⟨A2,c2,A6,c6,A7,c7,rfl,l2,g2,l6,g6,l7,g7⟩
theorem Rq {w:World} {base:Nat} {ok:Nat→Prop} {x:pE} {cs:List Value} (h:Fw.M w base ok x cs):∃ v2 v6 v7,cs= [.int .i64 x.f0,.bool x.f1.f0,v2,.string x.f1.f2.f0,.string x.f1.f2.f1,.bool x.f1.f2.f2,v6,v7,.int .i64 x.f4]∧Kd.string.R 9 w base ok v2 x.f1.f1∧sM.R 37 w base ok v6 x.f2∧(Kd.int .u8).R 5 w base ok v7 x.f3:=by
 obtain ⟨_,_,rfl,rfl,⟨_,_,rfl,s1,⟨_,_,rfl,⟨v6,rfl,g6⟩,⟨_,_,rfl,⟨v7,rfl,g7⟩,rfl⟩⟩⟩⟩:=h
 obtain ⟨v2,rfl,g2⟩:=Rp s1
 exact ⟨v2,v6,v7,rfl,g2,g6,g7⟩
theorem GR (w:World) (base:Nat) (ok:Nat→Prop) (x:pE) {v2:Value} (g2:Kd.string.R 9 w base ok v2 x.f1.f1) {v6:Value} (g6:sM.R 37 w base ok v6 x.f2) {v7:Value} (g7:(Kd.int .u8).R 5 w base ok v7 x.f3):Fw.M w base ok x [.int .i64 x.f0,.bool x.f1.f0,v2,.string x.f1.f2.f0,.string x.f1.f2.f1,.bool x.f1.f2.f2,v6,v7,.int .i64 x.f4]:=⟨[.int .i64 x.f0],[.bool x.f1.f0,v2,.string x.f1.f2.f0,.string x.f1.f2.f1,.bool x.f1.f2.f2,v6,v7,.int .i64 x.f4],rfl,rfl,⟨[.bool x.f1.f0,v2,.string x.f1.f2.f0,.string x.f1.f2.f1,.bool x.f1.f2.f2],[v6,v7,.int .i64 x.f4],rfl,(VN w base ok x.f1 g2),⟨[v6],[v7,.int .i64 x.f4],rfl,⟨v6,rfl,g6⟩,⟨[v7],[.int .i64 x.f4],rfl,⟨v7,rfl,g7⟩,rfl⟩⟩⟩⟩
def aj (xs:List pE) (i:Int):pE:=xs.getD i.toNat z34
theorem qw {w:World} {A:Option Addr} {n:Nat} {xs:List pE} (h:Kd.C Fw w A n xs) (i:Int) (h0: 0≤i) (h1:i < n):∃ ad A2 c2 A6 c6 A7 c7,A=some ad∧w.cell? (ad.add (i.toNat * 9))=some (.int .i64 (aj xs i).f0)∧w.cell? ⟨(ad.add (i.toNat * 9)).block,(ad.add (i.toNat * 9)).off + 1,none⟩=some (.bool (aj xs i).f1.f0)∧w.cell? ⟨(ad.add (i.toNat * 9)).block,(ad.add (i.toNat * 9)).off + 2,none⟩=some (.slice A2 (aj xs i).f1.f1.length c2)∧w.cell? ⟨(ad.add (i.toNat * 9)).block,(ad.add (i.toNat * 9)).off + 3,none⟩=some (.string (aj xs i).f1.f2.f0)∧w.cell? ⟨(ad.add (i.toNat * 9)).block,(ad.add (i.toNat * 9)).off + 4,none⟩=some (.string (aj xs i).f1.f2.f1)∧w.cell? ⟨(ad.add (i.toNat * 9)).block,(ad.add (i.toNat * 9)).off + 5,none⟩=some (.bool (aj xs i).f1.f2.f2)∧w.cell? ⟨(ad.add (i.toNat * 9)).block,(ad.add (i.toNat * 9)).off + 6,none⟩=some (.slice A6 (aj xs i).f2.length c6)∧w.cell? ⟨(ad.add (i.toNat * 9)).block,(ad.add (i.toNat * 9)).off + 7,none⟩=some (.slice A7 (aj xs i).f3.length c7)∧w.cell? ⟨(ad.add (i.toNat * 9)).block,(ad.add (i.toNat * 9)).off + 8,none⟩=some (.int .i64 (aj xs i).f4)∧(aj xs i).f1.f1.length≤c2∧Kd.string.C w A2 (aj xs i).f1.f1.length (aj xs i).f1.f1∧(aj xs i).f2.length≤c6∧sM.C w A6 (aj xs i).f2.length (aj xs i).f2∧(aj xs i).f3.length≤c7∧(Kd.int .u8).C w A7 (aj xs i).f3.length (aj xs i).f3:=by
 obtain ⟨ad,c,e,_,hK,hc0⟩:=Kd.N5 h z34 i h0 h1
 have hc:∀ j u,c[j]? =some u→w.cell? (ad.add (i.toNat * 9 + j))=some u:=hc0
 obtain ⟨A2,c2,A6,c6,A7,c7,rfl,l2,g2,l6,g6,l7,g7⟩:=KB hK
 exact ⟨ad,A2,c2,A6,c6,A7,c7,e,hc 0 _ rfl,Cs,Gz,GA,GC,GD,by rw [← jm _ _ 6 az];exact hc 6 _ rfl,by rw [← jm _ _ 7 az];exact hc 7 _ rfl,by rw [← jm _ _ 8 az];exact hc 8 _ rfl,l2,g2,l6,g6,l7,g7⟩
structure S40 where
 f0:Int
 f1:(List pE)
structure VO where
 f0:Int
 f1:Int
 f2:Int
 f3:Int
 f4:pE
def z46:VO:=⟨(0:Int),(0:Int),(0:Int),(0:Int),z34⟩
def k46:Kd VO:=Kd.iso (Kd.pair (Kd.int .u8) (Kd.pair (Kd.int .i64) (Kd.pair (Kd.int .i64) (Kd.pair (Kd.int .i64) Fw)))) (fun x:VO=>(x.f0,x.f1,x.f2,x.f3,x.f4))
theorem TI {w:World} {x:VO} {cs:List Value} (h:k46.K w x cs):∃ A6 c6 Rs c10 KC c11,cs= [.int .u8 x.f0,.int .i64 x.f1,.int .i64 x.f2,.int .i64 x.f3,.int .i64 x.f4.f0,.bool x.f4.f1.f0,.slice A6 x.f4.f1.f1.length c6,.string x.f4.f1.f2.f0,.string x.f4.f1.f2.f1,.bool x.f4.f1.f2.f2,.slice Rs x.f4.f2.length c10,.slice KC x.f4.f3.length c11,.int .i64 x.f4.f4]∧x.f4.f1.f1.length≤c6∧Kd.string.C w A6 x.f4.f1.f1.length x.f4.f1.f1∧x.f4.f2.length≤c10∧sM.C w Rs x.f4.f2.length x.f4.f2∧x.f4.f3.length≤c11∧(Kd.int .u8).C w KC x.f4.f3.length x.f4.f3:=by
 obtain ⟨_,_,rfl,rfl,⟨_,_,rfl,rfl,⟨_,_,rfl,rfl,⟨_,_,rfl,rfl,s4⟩⟩⟩⟩:=h
 obtain ⟨A6,c6,Rs,c10,KC,c11,rfl,l6,g6,l10,g10,l11,g11⟩:=KB s4
 exact ⟨A6,c6,Rs,c10,KC,c11,rfl,l6,g6,l10,g10,l11,g11⟩
def jA (xs:List VO) (i:Int):VO:=xs.getD i.toNat z46
theorem acA {w:World} {A:Option Addr} {n:Nat} {xs:List VO} (h:Kd.C k46 w A n xs) (i:Int) (h0: 0≤i) (h1:i < n):∃ ad A6 c6 Rs c10 KC c11,A=some ad∧w.cell? (ad.add (i.toNat * 13))=some (.int .u8 (jA xs i).f0)∧w.cell? ⟨(ad.add (i.toNat * 13)).block,(ad.add (i.toNat * 13)).off + 1,none⟩=some (.int .i64 (jA xs i).f1)∧w.cell? ⟨(ad.add (i.toNat * 13)).block,(ad.add (i.toNat * 13)).off + 2,none⟩=some (.int .i64 (jA xs i).f2)∧w.cell? ⟨(ad.add (i.toNat * 13)).block,(ad.add (i.toNat * 13)).off + 3,none⟩=some (.int .i64 (jA xs i).f3)∧w.cell? ⟨(ad.add (i.toNat * 13)).block,(ad.add (i.toNat * 13)).off + 4,none⟩=some (.int .i64 (jA xs i).f4.f0)∧w.cell? ⟨(ad.add (i.toNat * 13)).block,(ad.add (i.toNat * 13)).off + 5,none⟩=some (.bool (jA xs i).f4.f1.f0)∧w.cell? ⟨(ad.add (i.toNat * 13)).block,(ad.add (i.toNat * 13)).off + 6,none⟩=some (.slice A6 (jA xs i).f4.f1.f1.length c6)∧w.cell? ⟨(ad.add (i.toNat * 13)).block,(ad.add (i.toNat * 13)).off + 7,none⟩=some (.string (jA xs i).f4.f1.f2.f0)∧w.cell? ⟨(ad.add (i.toNat * 13)).block,(ad.add (i.toNat * 13)).off + 8,none⟩=some (.string (jA xs i).f4.f1.f2.f1)∧w.cell? ⟨(ad.add (i.toNat * 13)).block,(ad.add (i.toNat * 13)).off + 9,none⟩=some (.bool (jA xs i).f4.f1.f2.f2)∧w.cell? ⟨(ad.add (i.toNat * 13)).block,(ad.add (i.toNat * 13)).off + 10,none⟩=some (.slice Rs (jA xs i).f4.f2.length c10)∧w.cell? ⟨(ad.add (i.toNat * 13)).block,(ad.add (i.toNat * 13)).off + 11,none⟩=some (.slice KC (jA xs i).f4.f3.length c11)∧w.cell? ⟨(ad.add (i.toNat * 13)).block,(ad.add (i.toNat * 13)).off + 12,none⟩=some (.int .i64 (jA xs i).f4.f4)∧(jA xs i).f4.f1.f1.length≤c6∧Kd.string.C w A6 (jA xs i).f4.f1.f1.length (jA xs i).f4.f1.f1∧(jA xs i).f4.f2.length≤c10∧sM.C w Rs (jA xs i).f4.f2.length (jA xs i).f4.f2∧(jA xs i).f4.f3.length≤c11∧(Kd.int .u8).C w KC (jA xs i).f4.f3.length (jA xs i).f4.f3:=by
 obtain ⟨ad,c,e,_,hK,hc0⟩:=Kd.N5 h z46 i h0 h1
 have hc:∀ j u,c[j]? =some u→w.cell? (ad.add (i.toNat * 13 + j))=some u:=hc0
 obtain ⟨A6,c6,Rs,c10,KC,c11,rfl,l6,g6,l10,g10,l11,g11⟩:=TI hK
 exact ⟨ad,A6,c6,Rs,c10,KC,c11,e,hc 0 _ rfl,Cs,Gz,GA,GC,GD,by rw [← jm _ _ 6 az];exact hc 6 _ rfl,by rw [← jm _ _ 7 az];exact hc 7 _ rfl,by rw [← jm _ _ 8 az];exact hc 8 _ rfl,by rw [← jm _ _ 9 az];exact hc 9 _ rfl,by rw [← jm _ _ 10 az];exact hc 10 _ rfl,by rw [← jm _ _ 11 az];exact hc 11 _ rfl,by rw [← jm _ _ 12 az];exact hc 12 _ rfl,l6,g6,l10,g10,l11,g11⟩
structure CA where
 f0:Int
 f1:Int
def z63:CA:=⟨(0:Int),(0:Int)⟩
def k63:Kd CA:=Kd.iso (Kd.pair (Kd.int .i64) (Kd.int .i64)) (fun x:CA=>(x.f0,x.f1))
theorem TJ {w:World} {x:CA} {cs:List Value} (h:k63.K w x cs):cs= [.int .i64 x.f0,.int .i64 x.f1]:=by
 obtain ⟨_,_,rfl,rfl,rfl⟩:=h
 exact rfl
theorem VP (w:World) (base:Nat) (ok:Nat→Prop) (x:CA):k63.M w base ok x [.int .i64 x.f0,.int .i64 x.f1]:=⟨[.int .i64 x.f0],[.int .i64 x.f1],rfl,rfl,rfl⟩
def oH (xs:List CA) (i:Int):CA:=xs.getD i.toNat z63
theorem acC {w:World} {A:Option Addr} {n:Nat} {xs:List CA} (h:Kd.C k63 w A n xs) (i:Int) (h0: 0≤i) (h1:i < n):∃ ad,A=some ad∧w.cell? (ad.add (i.toNat * 2))=some (.int .i64 (oH xs i).f0)∧w.cell? ⟨(ad.add (i.toNat * 2)).block,(ad.add (i.toNat * 2)).off + 1,none⟩=some (.int .i64 (oH xs i).f1):=by
 obtain ⟨ad,c,e,_,hK,hc0⟩:=Kd.N5 h z63 i h0 h1
 have hc:∀ j u,c[j]? =some u→w.cell? (ad.add (i.toNat * 2 + j))=some u:=hc0
 obtain rfl:=TJ hK
 exact ⟨ad,e,hc 0 _ rfl,Cs⟩
end Go.Proofs.YtbjjaaodfbjkfaaGreatDoor.mU
