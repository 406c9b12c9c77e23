import Derived.Test.YtbjjaaodfbjkfaaGreatDoorZo
import Derived.Test.YtbjjaaodfbjkfaaGreatDoorWTab
import Derived.Test.YtbjjaaodfbjkfaaGreatDoorWEqStruct
import Derived.Test.YtbjjaaodfbjkfaaGreatDoorWGuard
import Derived.Test.YtbjjaaodfbjkfaaGreatDoorWMore
namespace Go.Proofs.YtbjjaaodfbjkfaaGreatDoor.mN
open Go.RowKit Go.Proofs.ak.bQ Go.Proofs.ak.dA Go.Proofs.ak.cX
attribute [local go_sem] jc jd j4 j5 gU gV je jf
set_option linter.unusedVariables false
set_option linter.unusedSimpArgs false
theorem info3:(Tryz.prog.info? 3).map (fun i=>(i.zero,i.size,i.bytes))=some (some (.int .i64 0),1,8):=by kernel_rfl
theorem Z8:(Tryz.prog.info? 5).map (fun i=>(i.zero,i.size,i.bytes))=some (some (.int .u8 0),1,1):=by kernel_rfl
theorem ad6:(Tryz.prog.info? 9).map (fun i=>(i.zero,i.size,i.bytes))=some (some (.string ⟨#[]⟩),1,16):=by kernel_rfl
theorem abe:(Tryz.prog.info? 34).map (fun i=>(i.zero,i.size,i.bytes))=some (some (.agg #[(.int .i64 0),(.bool false),(.slice none 0 0),(.string ⟨#[]⟩),(.string ⟨#[]⟩),(.bool false),(.slice none 0 0),(.slice none 0 0),(.int .i64 0)]),9,136):=by kernel_rfl
theorem Lm:(Tryz.prog.info? 37).map (fun i=>(i.zero,i.size,i.bytes))=some (some (.agg #[(.string ⟨#[]⟩),(.string ⟨#[]⟩),(.bool false),(.int .u8 0),(.int .i64 0),(.int .i64 0)]),6,64):=by kernel_rfl
theorem abf:(Tryz.prog.info? 63).map (fun i=>(i.zero,i.size,i.bytes))=some (some (.agg #[(.int .i64 0),(.int .i64 0)]),2,16):=by kernel_rfl
structure E2 where
 f0:ByteArray
 f1:ByteArray
 f2:Bool
def z29:E2:=⟨(⟨#[]⟩:ByteArray),(⟨#[]⟩:ByteArray),false⟩
def k29:Kd E2:=Kd.iso (Kd.pair Kd.string (Kd.pair Kd.string Kd.bool)) (fun x:E2=>(x.f0,x.f1,x.f2))
theorem JT {w:World} {x:E2} {cs:List Value} (h:k29.K w x cs):cs= [.string x.f0,.string x.f1,.bool x.f2]:=by
 obtain ⟨_,_,rfl,rfl,⟨_,_,rfl,rfl,rfl⟩⟩:=h
 exact rfl
theorem E3 {w:World} {base:Nat} {ok:Nat→Prop} {x:E2} {cs:List Value} (h:k29.M w base ok x cs):cs= [.string x.f0,.string x.f1,.bool x.f2]:=by
 obtain ⟨_,_,rfl,rfl,⟨_,_,rfl,rfl,rfl⟩⟩:=h
 exact rfl
theorem Ni (w:World) (base:Nat) (ok:Nat→Prop) (x:E2):k29.M w base ok x [.string x.f0,.string x.f1,.bool x.f2]:=⟨[.string x.f0],[.string x.f1,.bool x.f2],rfl,rfl,⟨[.string x.f1],[.bool x.f2],rfl,rfl,rfl⟩⟩
structure jz where
 f0:E2
 f1:Int
 f2:Int
 f3:Int
def z37:jz:=⟨z29,(0:Int),(0:Int),(0:Int)⟩
def tq:Kd jz:=Kd.iso (Kd.pair k29 (Kd.pair (Kd.int .u8) (Kd.pair (Kd.int .i64) (Kd.int .i64)))) (fun x:jz=>(x.f0,x.f1,x.f2,x.f3))
theorem JU {w:World} {x:jz} {cs:List Value} (h:tq.K w x cs):cs= [.string x.f0.f0,.string x.f0.f1,.bool x.f0.f2,.int .u8 x.f1,.int .i64 x.f2,.int .i64 x.f3]:=by
 obtain ⟨_,_,rfl,s0,⟨_,_,rfl,rfl,⟨_,_,rfl,rfl,rfl⟩⟩⟩:=h
 obtain rfl:=JT s0
 exact rfl
theorem Qu {w:World} {base:Nat} {ok:Nat→Prop} {x:jz} {cs:List Value} (h:tq.M w base ok x cs):cs= [.string x.f0.f0,.string x.f0.f1,.bool x.f0.f2,.int .u8 x.f1,.int .i64 x.f2,.int .i64 x.f3]:=by
 obtain ⟨_,_,rfl,s0,⟨_,_,rfl,rfl,⟨_,_,rfl,rfl,rfl⟩⟩⟩:=h
 obtain rfl:=E3 s0
 exact rfl
theorem Ca (w:World) (base:Nat) (ok:Nat→Prop) (x:jz):tq.M w base ok x [.string x.f0.f0,.string x.f0.f1,.bool x.f0.f2,.int .u8 x.f1,.int .i64 x.f2,.int .i64 x.f3]:=⟨[.string x.f0.f0,.string x.f0.f1,.bool x.f0.f2],[.int .u8 x.f1,.int .i64 x.f2,.int .i64 x.f3],rfl,(Ni w base ok x.f0),⟨[.int .u8 x.f1],[.int .i64 x.f2,.int .i64 x.f3],rfl,rfl,⟨[.int .i64 x.f2],[.int .i64 x.f3],rfl,rfl,rfl⟩⟩⟩
def bR (xs:List jz) (i:Int):jz:=xs.getD i.toNat z37
theorem ql {w:World} {A:Option Addr} {n:Nat} {xs:List jz} (h:Kd.C tq w A n xs) (i:Int) (h0: 0≤i) (h1:i < n):∃ ad,A=some ad∧w.cell? (ad.add (i.toNat * 6))=some (.string (bR xs i).f0.f0)∧w.cell? ⟨(ad.add (i.toNat * 6)).block,(ad.add (i.toNat * 6)).off + 1,none⟩=some (.string (bR xs i).f0.f1)∧w.cell? ⟨(ad.add (i.toNat * 6)).block,(ad.add (i.toNat * 6)).off + 2,none⟩=some (.bool (bR xs i).f0.f2)∧w.cell? ⟨(ad.add (i.toNat * 6)).block,(ad.add (i.toNat * 6)).off + 3,none⟩=some (.int .u8 (bR xs i).f1)∧w.cell? ⟨(ad.add (i.toNat * 6)).block,(ad.add (i.toNat * 6)).off + 4,none⟩=some (.int .i64 (bR xs i).f2)∧w.cell? ⟨(ad.add (i.toNat * 6)).block,(ad.add (i.toNat * 6)).off + 5,none⟩=some (.int .i64 (bR xs i).f3):=by
 obtain ⟨ad,c,e,_,hK,hc0⟩:=Kd.SB h z37 i h0 h1
 have hc:∀ j u,c[j]? =some u→w.cell? (ad.add (i.toNat * 6 + j))=some u:=hc0
 obtain rfl:=JU hK
 exact ⟨ad,e,hc 0 _ rfl,F7,by rw [← kA _ _ 2 aA];exact hc 2 _ rfl,by rw [← kA _ _ 3 aA];exact hc 3 _ rfl,by rw [← kA _ _ 4 aA];exact hc 4 _ rfl,by rw [← kA _ _ 5 aA];exact hc 5 _ rfl⟩
structure Rz where
 f0:Bool
 f1:(List ByteArray)
 f2:E2
def z31:Rz:=⟨false,([]:List ByteArray),z29⟩
def k31:Kd Rz:=Kd.iso (Kd.pair Kd.bool (Kd.pair (Kd.slice 9 Kd.string) k29)) (fun x:Rz=>(x.f0,x.f1,x.f2))
theorem SN {w:World} {x:Rz} {cs:List Value} (h:k31.K w x cs):∃ A1 c1,cs= [.bool x.f0,.slice A1 x.f1.length c1,.string x.f2.f0,.string x.f2.f1,.bool x.f2.f2]∧x.f1.length≤c1∧Kd.string.C w A1 x.f1.length x.f1:=by
 obtain ⟨_,_,rfl,rfl,⟨_,_,rfl,⟨A1,c1,rfl,l1,g1⟩,s2⟩⟩:=h
 obtain rfl:=JT s2
 exact ⟨A1,c1,rfl,l1,g1⟩
theorem Qv {w:World} {base:Nat} {ok:Nat→Prop} {x:Rz} {cs:List Value} (h:k31.M w base ok x cs):∃ v1,cs= [.bool x.f0,v1,.string x.f2.f0,.string x.f2.f1,.bool x.f2.f2]∧Kd.string.R 9 w base ok v1 x.f1:=by
 obtain ⟨_,_,rfl,rfl,⟨_,_,rfl,⟨v1,rfl,g1⟩,s2⟩⟩:=h
 obtain rfl:=E3 s2
 exact ⟨v1,rfl,g1⟩
theorem UY (w:World) (base:Nat) (ok:Nat→Prop) (x:Rz) {v1:Value} (g1:Kd.string.R 9 w base ok v1 x.f1):k31.M w base ok x [.bool x.f0,v1,.string x.f2.f0,.string x.f2.f1,.bool x.f2.f2]:=⟨[.bool x.f0],[v1,.string x.f2.f0,.string x.f2.f1,.bool x.f2.f2],rfl,rfl,⟨[v1],[.string x.f2.f0,.string x.f2.f1,.bool x.f2.f2],rfl,⟨v1,rfl,g1⟩,(Ni w base ok x.f2)⟩⟩
structure o8 where
 f0:Int
 f1:Rz
 f2:(List jz)
 f3:(List Int)
 f4:Int
def z34:o8:=⟨(0:Int),z31,([]:List jz),([]:List Int),(0:Int)⟩
def E4:Kd o8:=Kd.iso (Kd.pair (Kd.int .i64) (Kd.pair k31 (Kd.pair (Kd.slice 37 tq) (Kd.pair (Kd.slice 5 (Kd.int .u8)) (Kd.int .i64))))) (fun x:o8=>(x.f0,x.f1,x.f2,x.f3,x.f4))
theorem JV {w:World} {x:o8} {cs:List Value} (h:E4.K w x cs):∃ A2 c2 A6 c6 A7 c7,cs= [.int .i64 x.f0,.bool x.f1.f0,.slice A2 x.f1.f1.length c2,.string x.f1.f2.f0,.string x.f1.f2.f1,.bool x.f1.f2.f2,.slice A6 x.f2.length c6,.slice A7 x.f3.length c7,.int .i64 x.f4]∧x.f1.f1.length≤c2∧Kd.string.C w A2 x.f1.f1.length x.f1.f1∧x.f2.length≤c6∧tq.C w A6 x.f2.length x.f2∧x.f3.length≤c7∧(Kd.int .u8).C w A7 x.f3.length x.f3:=by
 obtain ⟨_,_,rfl,rfl,⟨_,_,rfl,s1,⟨_,_,rfl,⟨A6,c6,rfl,l6,g6⟩,⟨_,_,rfl,⟨A7,c7,rfl,l7,g7⟩,rfl⟩⟩⟩⟩:=h
 obtain ⟨A2,c2,rfl,l2,g2⟩:=SN s1
 exact ⟨A2,c2,A6,c6,A7,c7,rfl,l2,g2,l6,g6,l7,g7⟩
theorem E5 {w:World} {base:Nat} {ok:Nat→Prop} {x:o8} {cs:List Value} (h:E4.M w base ok x cs):∃ v2 v6 v7,cs= [.int .i64 x.f0,.bool x.f1.f0,v2,.string x.f1.f2.f0,.string x.f1.f2.f1,.bool x.f1.f2.f2,v6,v7,.int .i64 x.f4]∧Kd.string.R 9 w base ok v2 x.f1.f1∧tq.R 37 w base ok v6 x.f2∧(Kd.int .u8).R 5 w base ok v7 x.f3:=by
 obtain ⟨_,_,rfl,rfl,⟨_,_,rfl,s1,⟨_,_,rfl,⟨v6,rfl,g6⟩,⟨_,_,rfl,⟨v7,rfl,g7⟩,rfl⟩⟩⟩⟩:=h
 obtain ⟨v2,rfl,g2⟩:=Qv s1
 exact ⟨v2,v6,v7,rfl,g2,g6,g7⟩
theorem Cb (w:World) (base:Nat) (ok:Nat→Prop) (x:o8) {v2:Value} (g2:Kd.string.R 9 w base ok v2 x.f1.f1) {v6:Value} (g6:tq.R 37 w base ok v6 x.f2) {v7:Value} (g7:(Kd.int .u8).R 5 w base ok v7 x.f3):E4.M w base ok x [.int .i64 x.f0,.bool x.f1.f0,v2,.string x.f1.f2.f0,.string x.f1.f2.f1,.bool x.f1.f2.f2,v6,v7,.int .i64 x.f4]:=⟨[.int .i64 x.f0],[.bool x.f1.f0,v2,.string x.f1.f2.f0,.string x.f1.f2.f1,.bool x.f1.f2.f2,v6,v7,.int .i64 x.f4],rfl,rfl,⟨[.bool x.f1.f0,v2,.string x.f1.f2.f0,.string x.f1.f2.f1,.bool x.f1.f2.f2],[v6,v7,.int .i64 x.f4],rfl,(UY w base ok x.f1 g2),⟨[v6],[v7,.int .i64 x.f4],rfl,⟨v6,rfl,g6⟩,⟨[v7],[.int .i64 x.f4],rfl,⟨v7,rfl,g7⟩,rfl⟩⟩⟩⟩
def aj (xs:List o8) (i:Int):o8:=xs.getD i.toNat z34
theorem qm {w:World} {A:Option Addr} {n:Nat} {xs:List o8} (h:Kd.C E4 w A n xs) (i:Int) (h0: 0≤i) (h1:i < n):∃ ad A2 c2 A6 c6 A7 c7,A=some ad∧w.cell? (ad.add (i.toNat * 9))=some (.int .i64 (aj xs i).f0)∧w.cell? ⟨(ad.add (i.toNat * 9)).block,(ad.add (i.toNat * 9)).off + 1,none⟩=some (.bool (aj xs i).f1.f0)∧w.cell? ⟨(ad.add (i.toNat * 9)).block,(ad.add (i.toNat * 9)).off + 2,none⟩=some (.slice A2 (aj xs i).f1.f1.length c2)∧w.cell? ⟨(ad.add (i.toNat * 9)).block,(ad.add (i.toNat * 9)).off + 3,none⟩=some (.string (aj xs i).f1.f2.f0)∧w.cell? ⟨(ad.add (i.toNat * 9)).block,(ad.add (i.toNat * 9)).off + 4,none⟩=some (.string (aj xs i).f1.f2.f1)∧w.cell? ⟨(ad.add (i.toNat * 9)).block,(ad.add (i.toNat * 9)).off + 5,none⟩=some (.bool (aj xs i).f1.f2.f2)∧w.cell? ⟨(ad.add (i.toNat * 9)).block,(ad.add (i.toNat * 9)).off + 6,none⟩=some (.slice A6 (aj xs i).f2.length c6)∧w.cell? ⟨(ad.add (i.toNat * 9)).block,(ad.add (i.toNat * 9)).off + 7,none⟩=some (.slice A7 (aj xs i).f3.length c7)∧w.cell? ⟨(ad.add (i.toNat * 9)).block,(ad.add (i.toNat * 9)).off + 8,none⟩=some (.int .i64 (aj xs i).f4)∧(aj xs i).f1.f1.length≤c2∧Kd.string.C w A2 (aj xs i).f1.f1.length (aj xs i).f1.f1∧(aj xs i).f2.length≤c6∧tq.C w A6 (aj xs i).f2.length (aj xs i).f2∧(aj xs i).f3.length≤c7∧(Kd.int .u8).C w A7 (aj xs i).f3.length (aj xs i).f3:=by
 obtain ⟨ad,c,e,_,hK,hc0⟩:=Kd.SB h z34 i h0 h1
 have hc:∀ j u,c[j]? =some u→w.cell? (ad.add (i.toNat * 9 + j))=some u:=hc0
 obtain ⟨A2,c2,A6,c6,A7,c7,rfl,l2,g2,l6,g6,l7,g7⟩:=JV hK
 exact ⟨ad,A2,c2,A6,c6,A7,c7,e,hc 0 _ rfl,F7,by rw [← kA _ _ 2 aA];exact hc 2 _ rfl,by rw [← kA _ _ 3 aA];exact hc 3 _ rfl,by rw [← kA _ _ 4 aA];exact hc 4 _ rfl,by rw [← kA _ _ 5 aA];exact hc 5 _ rfl,by rw [← kA _ _ 6 aA];exact hc 6 _ rfl,by rw [← kA _ _ 7 aA];exact hc 7 _ rfl,by rw [← kA _ _ 8 aA];exact hc 8 _ rfl,l2,g2,l6,g6,l7,g7⟩
structure S40 where
 f0:Int
 f1:(List o8)
structure S46 where
 f0:Int
 f1:Int
 f2:Int
 f3:Int
 f4:o8
def z46:S46:=⟨(0:Int),(0:Int),(0:Int),(0:Int),z34⟩
def k46:Kd S46:=Kd.iso (Kd.pair (Kd.int .u8) (Kd.pair (Kd.int .i64) (Kd.pair (Kd.int .i64) (Kd.pair (Kd.int .i64) E4)))) (fun x:S46=>(x.f0,x.f1,x.f2,x.f3,x.f4))
structure Cc where
 f0:Int
 f1:Int
def z63:Cc:=⟨(0:Int),(0:Int)⟩
def k63:Kd Cc:=Kd.iso (Kd.pair (Kd.int .i64) (Kd.int .i64)) (fun x:Cc=>(x.f0,x.f1))
theorem SP {w:World} {x:Cc} {cs:List Value} (h:k63.K w x cs):cs= [.int .i64 x.f0,.int .i64 x.f1]:=by
 obtain ⟨_,_,rfl,rfl,rfl⟩:=h
 exact rfl
theorem UZ (w:World) (base:Nat) (ok:Nat→Prop) (x:Cc):k63.M w base ok x [.int .i64 x.f0,.int .i64 x.f1]:=⟨[.int .i64 x.f0],[.int .i64 x.f1],rfl,rfl,rfl⟩
def oC (xs:List Cc) (i:Int):Cc:=xs.getD i.toNat z63
theorem abh {w:World} {A:Option Addr} {n:Nat} {xs:List Cc} (h:Kd.C k63 w A n xs) (i:Int) (h0: 0≤i) (h1:i < n):∃ ad,A=some ad∧w.cell? (ad.add (i.toNat * 2))=some (.int .i64 (oC xs i).f0)∧w.cell? ⟨(ad.add (i.toNat * 2)).block,(ad.add (i.toNat * 2)).off + 1,none⟩=some (.int .i64 (oC xs i).f1):=by
 obtain ⟨ad,c,e,_,hK,hc0⟩:=Kd.SB h z63 i h0 h1
 have hc:∀ j u,c[j]? =some u→w.cell? (ad.add (i.toNat * 2 + j))=some u:=hc0
 obtain rfl:=SP hK
 exact ⟨ad,e,hc 0 _ rfl,F7⟩
end Go.Proofs.YtbjjaaodfbjkfaaGreatDoor.mN
