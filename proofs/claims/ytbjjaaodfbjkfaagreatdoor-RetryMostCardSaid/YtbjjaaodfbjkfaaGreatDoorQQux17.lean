import Derived.Test.YtbjjaaodfbjkfaaGreatDoorQQux16
import Derived.Test.YtbjjaaodfbjkfaaGreatDoorEApply
namespace Go.Proofs.YtbjjaaodfbjkfaaGreatDoor.qb
open Go.RowKit Go.Proofs.YtbjjaaodfbjkfaaGreatDoor.xI Go.Proofs.aj.bQ Go.Proofs.aj.dX Go.Proofs.aj.dJ
attribute [local go_sem] jT jU lF lG iX iY jV jW
set_option linter.unusedVariables false
set_option linter.unusedSimpArgs false
mutual
def aq.l0:Nat→List Int→List Int→Int→Int→Int→Int→Int→List Int→Int→Int→Int→Bool→List ByteArray→ByteArray→ByteArray→Bool→List (iN)→List Int→Int→Int→List (qV)→Option (Bool)
 | 0,_,_,_,_,_,_,_,_,_,_,_,_,_,_,_,_,_,_,_,_,_ =>none
 |k + 1,x3,x9,qX,Pc,x14,wq,uB,x50,x51,x52,gM,gN,gP,gQ,gS,gT,gU,gV,gh,iC,dF=>if x52 < x51 then (if 0≤x52 then (if x52 < (x50.length:Int) then (aq.l0 k x3 x9 qX Pc x14 (mx wq (rd x50 x52)) uB x50 x51 (wrap64 (x52 + 1)) gM gN gP gQ gS gT gU gV gh iC dF) else (none)) else (none)) else (if Pc=0 then (aq.j1 k x3 x9 qX x14 wq uB (decide (x14 < 2)) gM gN gP gQ gS gT gU gV gh iC dF) else (aq.j1 k x3 x9 qX x14 wq uB true gM gN gP gQ gS gT gU gV gh iC dF))
def aq.j1:Nat→List Int→List Int→Int→Int→Int→Int→Bool→Int→Bool→List ByteArray→ByteArray→ByteArray→Bool→List (iN)→List Int→Int→Int→List (qV)→Option (Bool)
 | 0,_,_,_,_,_,_,_,_,_,_,_,_,_,_,_,_,_,_ =>none
 |k + 1,x3,x9,qX,x14,wq,uB,x65,gM,gN,gP,gQ,gS,gT,gU,gV,gh,iC,dF=>if x65=true then (none) else (aq.l1 k x3 x9 qX wq uB gh x14 0 gM gN gP gQ gS gT gU gV gh iC dF)
def aq.l1:Nat→List Int→List Int→Int→Int→Int→Int→Int→Int→Int→Bool→List ByteArray→ByteArray→ByteArray→Bool→List (iN)→List Int→Int→Int→List (qV)→Option (Bool)
 | 0,_,_,_,_,_,_,_,_,_,_,_,_,_,_,_,_,_,_,_ =>none
 |k + 1,x3,x9,qX,wq,uB,Pe,Ge,Ce,gM,gN,gP,gQ,gS,gT,gU,gV,gh,iC,dF=>if Ce < Ge then (if (x3.length:Int) > 0 then (if (x3.length:Int)=0 then (none) else (if 0≤(Int.tmod Ce (x3.length:Int)) then (if (Int.tmod Ce (x3.length:Int)) < (x3.length:Int) then (aq.j3 k x3 x9 qX wq (wrap64 (rd x3 (Int.tmod Ce (x3.length:Int)))) Pe Ge Ce gM gN gP gQ gS gT gU gV gh iC dF) else (none)) else (none))) else (aq.j3 k x3 x9 qX wq uB Pe Ge Ce gM gN gP gQ gS gT gU gV gh iC dF)) else (some false)
def aq.j3:Nat→List Int→List Int→Int→Int→Int→Int→Int→Int→Int→Bool→List ByteArray→ByteArray→ByteArray→Bool→List (iN)→List Int→Int→Int→List (qV)→Option (Bool)
 | 0,_,_,_,_,_,_,_,_,_,_,_,_,_,_,_,_,_,_,_ =>none
 |k + 1,x3,x9,qX,wq,uB,Pe,Ge,Ce,gM,gN,gP,gQ,gS,gT,gU,gV,gh,iC,dF=>if (dF.length:Int)=1 then (if 0 < (dF.length:Int) then (if (((av dF 0).f2).length:Int)=1 then (if 0 < (((av dF 0).f2).length:Int) then (aq.j4 k x3 x9 qX wq uB Ge Ce (decide (((bg ((av dF 0).f2) 0).f3) < Pe)) gM gN gP gQ gS gT gU gV gh iC dF) else (none)) else (aq.j4 k x3 x9 qX wq uB Ge Ce true gM gN gP gQ gS gT gU gV gh iC dF)) else (none)) else (aq.j4 k x3 x9 qX wq uB Ge Ce true gM gN gP gQ gS gT gU gV gh iC dF)
def aq.j4:Nat→List Int→List Int→Int→Int→Int→Int→Int→Bool→Int→Bool→List ByteArray→ByteArray→ByteArray→Bool→List (iN)→List Int→Int→Int→List (qV)→Option (Bool)
 | 0,_,_,_,_,_,_,_,_,_,_,_,_,_,_,_,_,_,_,_ =>none
 |k + 1,x3,x9,qX,wq,uB,Ge,Ce,aDb,gM,gN,gP,gQ,gS,gT,gU,gV,gh,iC,dF=>if aDb=true then (none) else (if 0 < (dF.length:Int) then (if 0 < (((av dF 0).f2).length:Int) then ((cg.f k x9 qX ((av dF 0).f0) ((av dF 0).f1.f0) ((av dF 0).f1.f1) ((av dF 0).f1.f2.f0) ((av dF 0).f1.f2.f1) ((av dF 0).f1.f2.f2) ((av dF 0).f2) ((av dF 0).f3) ((av dF 0).f4) 0 3 (wrap64 (((bg ((av dF 0).f2) 0).f3) + uB))).bind fun dB=>(if dB.2.2.2.2.2.2.2.2.2.2.2.2.2=0 then ((eO.f k iC dF dB.1 dB.2.1 dB.2.2.1 dB.2.2.2.1 dB.2.2.2.2.1 dB.2.2.2.2.2.1 dB.2.2.2.2.2.2.1 dB.2.2.2.2.2.2.2.1 dB.2.2.2.2.2.2.2.2.1 dB.2.2.2.2.2.2.2.2.2.1 dB.2.2.2.2.2.2.2.2.2.2.1 dB.2.2.2.2.2.2.2.2.2.2.2.1 dB.2.2.2.2.2.2.2.2.2.2.2.2.1).bind fun vq=>(if vq.2.2=0 then (if ((dB.1 == 4) != (decide ((wrap64 ((wrap64 (((bg ((av dF 0).f2) 0).f3) + uB)) - gh))≥qX)))=true then (aq.j5 k x3 x9 qX wq uB (wrap64 (((bg ((av dF 0).f2) 0).f3) + uB)) Ge Ce true gM gN gP gQ gS gT gU gV gh vq.1 vq.2.1 dB.1 dB.2.1 dB.2.2.1 dB.2.2.2.1 dB.2.2.2.2.1 dB.2.2.2.2.2.1 dB.2.2.2.2.2.2.1 dB.2.2.2.2.2.2.2.1 dB.2.2.2.2.2.2.2.2.1 dB.2.2.2.2.2.2.2.2.2.1 dB.2.2.2.2.2.2.2.2.2.2.1 dB.2.2.2.2.2.2.2.2.2.2.2.1 dB.2.2.2.2.2.2.2.2.2.2.2.2.1) else (if dB.1=4 then (aq.j5 k x3 x9 qX wq uB (wrap64 (((bg ((av dF 0).f2) 0).f3) + uB)) Ge Ce false gM gN gP gQ gS gT gU gV gh vq.1 vq.2.1 dB.1 dB.2.1 dB.2.2.1 dB.2.2.2.1 dB.2.2.2.2.1 dB.2.2.2.2.2.1 dB.2.2.2.2.2.2.1 dB.2.2.2.2.2.2.2.1 dB.2.2.2.2.2.2.2.2.1 dB.2.2.2.2.2.2.2.2.2.1 dB.2.2.2.2.2.2.2.2.2.2.1 dB.2.2.2.2.2.2.2.2.2.2.2.1 dB.2.2.2.2.2.2.2.2.2.2.2.2.1) else (if dB.1=2 then (if dB.2.2.2.1≤(wrap64 (((bg ((av dF 0).f2) 0).f3) + uB)) then (aq.j5 k x3 x9 qX wq uB (wrap64 (((bg ((av dF 0).f2) 0).f3) + uB)) Ge Ce true gM gN gP gQ gS gT gU gV gh vq.1 vq.2.1 dB.1 dB.2.1 dB.2.2.1 dB.2.2.2.1 dB.2.2.2.2.1 dB.2.2.2.2.2.1 dB.2.2.2.2.2.2.1 dB.2.2.2.2.2.2.2.1 dB.2.2.2.2.2.2.2.2.1 dB.2.2.2.2.2.2.2.2.2.1 dB.2.2.2.2.2.2.2.2.2.2.1 dB.2.2.2.2.2.2.2.2.2.2.2.1 dB.2.2.2.2.2.2.2.2.2.2.2.2.1) else (aq.j5 k x3 x9 qX wq uB (wrap64 (((bg ((av dF 0).f2) 0).f3) + uB)) Ge Ce (decide (dB.2.2.2.1 > (wrap64 ((wrap64 (((bg ((av dF 0).f2) 0).f3) + uB)) + wq)))) gM gN gP gQ gS gT gU gV gh vq.1 vq.2.1 dB.1 dB.2.1 dB.2.2.1 dB.2.2.2.1 dB.2.2.2.2.1 dB.2.2.2.2.2.1 dB.2.2.2.2.2.2.1 dB.2.2.2.2.2.2.2.1 dB.2.2.2.2.2.2.2.2.1 dB.2.2.2.2.2.2.2.2.2.1 dB.2.2.2.2.2.2.2.2.2.2.1 dB.2.2.2.2.2.2.2.2.2.2.2.1 dB.2.2.2.2.2.2.2.2.2.2.2.2.1)) else (aq.j5 k x3 x9 qX wq uB (wrap64 (((bg ((av dF 0).f2) 0).f3) + uB)) Ge Ce true gM gN gP gQ gS gT gU gV gh vq.1 vq.2.1 dB.1 dB.2.1 dB.2.2.1 dB.2.2.2.1 dB.2.2.2.2.1 dB.2.2.2.2.2.1 dB.2.2.2.2.2.2.1 dB.2.2.2.2.2.2.2.1 dB.2.2.2.2.2.2.2.2.1 dB.2.2.2.2.2.2.2.2.2.1 dB.2.2.2.2.2.2.2.2.2.2.1 dB.2.2.2.2.2.2.2.2.2.2.2.1 dB.2.2.2.2.2.2.2.2.2.2.2.2.1)))) else (none))) else (none))) else (none)) else (none))
def aq.j5:Nat→List Int→List Int→Int→Int→Int→Int→Int→Int→Bool→Int→Bool→List ByteArray→ByteArray→ByteArray→Bool→List (iN)→List Int→Int→Int→List (qV)→Int→Int→Int→Int→Int→Bool→List ByteArray→ByteArray→ByteArray→Bool→List (iN)→List Int→Int→Option (Bool)
 | 0,_,_,_,_,_,_,_,_,_,_,_,_,_,_,_,_,_,_,_,_,_,_,_,_,_,_,_,_,_,_,_,_,_ =>none
 |k + 1,x3,x9,qX,wq,uB,Pe,Ge,Ce,aDc,gM,gN,gP,gQ,gS,gT,gU,gV,gh,iC,dF,Gf,Og,Oh,Oi,Oj,Ol,Om,Oo,Oq,Ot,Ou,Ov,Ow=>if aDc=true then (none) else (if Gf=4 then (if (x3.length:Int) > 0 then ((dH.f k iC dF).bind fun Km=>(if (Km.length:Int)=1 then ((dA.f k).bind fun TE=>(some TE)) else (some false))) else (if (wrap64 (Pe - gh)) < (wrap64 (qX + wq)) then ((dH.f k iC dF).bind fun TF=>(if (TF.length:Int)=1 then ((dA.f k).bind fun aeQ=>(some aeQ)) else (some false))) else (some false))) else (aq.l1 k x3 x9 qX wq uB Pe Ge (wrap64 (Ce + 1)) gM gN gP gQ gS gT gU gV gh iC dF))
end
def aq.f (k:Nat) (l0:List Int) (a1:Int) (a2:Int) (l3:List Int):Option (Bool):=(ck.f k l0).bind fun iZ=>((bC.f k 1 (⟨#[97]⟩:ByteArray) (([(⟨#[120]⟩:ByteArray)]:List ByteArray))).bind fun eD=>(if 0 < (eD.2.2.2.2.2.2.1.length:Int) then ((some (eD.2.2.2.2.2.2.1.set (0:Int).toNat (⟨(⟨(bg eD.2.2.2.2.2.2.1 0).f0.f0,(bg eD.2.2.2.2.2.2.1 0).f0.f1,(bg eD.2.2.2.2.2.2.1 0).f0.f2⟩:sD),(bg eD.2.2.2.2.2.2.1 0).f1,(bg eD.2.2.2.2.2.2.1 0).f2,wrap64 (a2)⟩:iN):List (iN))).bind fun iA=>((ku.f).bind fun vr=>((eO.f k vr.1 vr.2 1 0 0 0 eD.1 eD.2.1 eD.2.2.1 eD.2.2.2.1 eD.2.2.2.2.1 eD.2.2.2.2.2.1 iA eD.2.2.2.2.2.2.2.1 (wrap64 (a2))).bind fun qN=>((cA.f k iZ (wrap64 (1 + (wrap64 (Int.tmod a1 1000))))).bind fun vv=>(aq.l0 k l3 iZ (wrap64 (1 + (wrap64 (Int.tmod a1 1000)))) qN.2.2 vv 0 0 iZ (iZ.length:Int) 0 eD.1 eD.2.1 eD.2.2.1 eD.2.2.2.1 eD.2.2.2.2.1 eD.2.2.2.2.2.1 iA eD.2.2.2.2.2.2.2.1 (wrap64 (a2)) qN.1 qN.2.1))))) else (none)))
def aq.T5:Bool×List (List Nat×List Nat):=(true,[([],[]),([],[]),([1],[1]),([0,2,0],[0,2]),([3],[3]),([4],[4]),([4],[4]),([],[]),([7,5,3,0,1,2,3,4,5,7],[5,7]),([6,8,0,1,2,3,4,5,6,7,8],[6])])
def aq.B5:List Nat:=[0,0,2,7,15,31,31,0,191,511]
theorem aq.adT:pO .any (opsOf Tryz.f3 5)=aq.T5:=by kernel_rfl
theorem aq.Sd:ql aq.T5.2 aq.B5=true:=by kernel_rfl
theorem aq.amr {k:Nat} {x3:List Int} {x9:List Int} {qX:Int} {x14:Int} {wq:Int} {uB:Int} {gM:Int} {gN:Bool} {gP:List ByteArray} {gQ:ByteArray} {gS:ByteArray} {gT:Bool} {gU:List (iN)} {gV:List Int} {gh:Int} {iC:Int} {dF:List (qV)} {r:Bool} (h:aq.j1 k x3 x9 qX x14 wq uB true gM gN gP gQ gS gT gU gV gh iC dF=some r):False:=by
 cases k<;>simp [aq.j1] at h
theorem aq.acq {k:Nat} {x3:List Int} {x9:List Int} {qX:Int} {wq:Int} {uB:Int} {Ge:Int} {Ce:Int} {gM:Int} {gN:Bool} {gP:List ByteArray} {gQ:ByteArray} {gS:ByteArray} {gT:Bool} {gU:List (iN)} {gV:List Int} {gh:Int} {iC:Int} {dF:List (qV)} {r:Bool} (h:aq.j4 k x3 x9 qX wq uB Ge Ce true gM gN gP gQ gS gT gU gV gh iC dF=some r):False:=by
 cases k<;>simp [aq.j4] at h
theorem aq.TG {k:Nat} {x3:List Int} {x9:List Int} {qX:Int} {wq:Int} {uB:Int} {Pe:Int} {Ge:Int} {Ce:Int} {gM:Int} {gN:Bool} {gP:List ByteArray} {gQ:ByteArray} {gS:ByteArray} {gT:Bool} {gU:List (iN)} {gV:List Int} {gh:Int} {iC:Int} {dF:List (qV)} {Gf:Int} {Og:Int} {Oh:Int} {Oi:Int} {Oj:Int} {Ol:Bool} {Om:List ByteArray} {Oo:ByteArray} {Oq:ByteArray} {Ot:Bool} {Ou:List (iN)} {Ov:List Int} {Ow:Int} {r:Bool} (h:aq.j5 k x3 x9 qX wq uB Pe Ge Ce true gM gN gP gQ gS gT gU gV gh iC dF Gf Og Oh Oi Oj Ol Om Oo Oq Ot Ou Ov Ow=some r):False:=by
 cases k<;>simp [aq.j5] at h
set_option maxHeartbeats 8000000 in
set_option maxRecDepth 100000 in
theorem aq.calls (k:Nat) (A0:Option Addr) (c0:Nat) (l0:List Int) (a1:Int) (a2:Int) (A3:Option Addr) (c3:Nat) (l3:List Int) (r:Bool) (w:World) (lN:Kd.C (Kd.int .u8) w A0 l0.length l0) (hc0:l0.length≤c0) (hr3:Kd.C (Kd.int .u8) w A3 l3.length l3) (hc3:l3.length≤c3) (hG:bp w) (h:aq.f k l0 a1 a2 l3=some r):
 Calls Tryz.prog 3 #[.slice A0 l0.length c0,.int .u16 a1,.int .u32 a2,.slice A3 l3.length c3] w fun e w'=>e= .returned (.bool r)∧Below w.heap.size w w':=by
 have Dg:=Tryz.underlying34
 have adE:=Tryz.underlying46
 have adw:=Tryz.underlying40
 have nr:=ah.mk lN
 have sU:=ah.mk hc0
 clear lN hc0
 have HR3:=ah.mk hr3
 have HC3:=ah.mk hc3
 clear hr3 hc3
 have HB:=ah.mk (Below.refl w.heap.size w)
 have HG:=ah.mk hG
 clear hG
 have H:((ck.f k l0).bind fun iZ=>((bC.f k 1 (⟨#[97]⟩:ByteArray) (([(⟨#[120]⟩:ByteArray)]:List ByteArray))).bind fun eD=>(if 0 < (eD.2.2.2.2.2.2.1.length:Int) then ((some (eD.2.2.2.2.2.2.1.set (0:Int).toNat (⟨(⟨(bg eD.2.2.2.2.2.2.1 0).f0.f0,(bg eD.2.2.2.2.2.2.1 0).f0.f1,(bg eD.2.2.2.2.2.2.1 0).f0.f2⟩:sD),(bg eD.2.2.2.2.2.2.1 0).f1,(bg eD.2.2.2.2.2.2.1 0).f2,wrap64 (a2)⟩:iN):List (iN))).bind fun iA=>((ku.f).bind fun vr=>((eO.f k vr.1 vr.2 1 0 0 0 eD.1 eD.2.1 eD.2.2.1 eD.2.2.2.1 eD.2.2.2.2.1 eD.2.2.2.2.2.1 iA eD.2.2.2.2.2.2.2.1 (wrap64 (a2))).bind fun qN=>((cA.f k iZ (wrap64 (1 + (wrap64 (Int.tmod a1 1000))))).bind fun vv=>(aq.l0 k l3 iZ (wrap64 (1 + (wrap64 (Int.tmod a1 1000)))) qN.2.2 vv 0 0 iZ (iZ.length:Int) 0 eD.1 eD.2.1 eD.2.2.1 eD.2.2.2.1 eD.2.2.2.2.1 eD.2.2.2.2.2.1 iA eD.2.2.2.2.2.2.2.1 (wrap64 (a2)) qN.1 qN.2.1))))) else (none))))=some r:=h
 clear h
 obtain ⟨iZ,A5,H⟩:=bd_ H
 obtain ⟨um,TH⟩:∃ y_:List ByteArray,y_=(([(⟨#[120]⟩:ByteArray)]:List ByteArray)):=⟨_,rfl⟩
 replace H:((bC.f k 1 (⟨#[97]⟩:ByteArray) um).bind fun eD=>(if 0 < (eD.2.2.2.2.2.2.1.length:Int) then ((some (eD.2.2.2.2.2.2.1.set (0:Int).toNat (⟨(⟨(bg eD.2.2.2.2.2.2.1 0).f0.f0,(bg eD.2.2.2.2.2.2.1 0).f0.f1,(bg eD.2.2.2.2.2.2.1 0).f0.f2⟩:sD),(bg eD.2.2.2.2.2.2.1 0).f1,(bg eD.2.2.2.2.2.2.1 0).f2,wrap64 (a2)⟩:iN):List (iN))).bind fun iA=>((ku.f).bind fun vr=>((eO.f k vr.1 vr.2 1 0 0 0 eD.1 eD.2.1 eD.2.2.1 eD.2.2.2.1 eD.2.2.2.2.1 eD.2.2.2.2.2.1 iA eD.2.2.2.2.2.2.2.1 (wrap64 (a2))).bind fun qN=>((cA.f k iZ (wrap64 (1 + (wrap64 (Int.tmod a1 1000))))).bind fun vv=>(aq.l0 k l3 iZ (wrap64 (1 + (wrap64 (Int.tmod a1 1000)))) qN.2.2 vv 0 0 iZ (iZ.length:Int) 0 eD.1 eD.2.1 eD.2.2.1 eD.2.2.2.1 eD.2.2.2.2.1 eD.2.2.2.2.2.1 iA eD.2.2.2.2.2.2.2.1 (wrap64 (a2)) qN.1 qN.2.1))))) else (none)))=some r:=by (rw [TH];with_reducible exact H)
 have ams:=ah.mk TH
 clear TH
 obtain ⟨⟨gy,gD,eA,gW,ig,iq,fk,eG,Cu⟩,A6,H⟩:=bd_ H
 (try dsimp only at H)
 obtain ⟨c7,H⟩:=ld H
 have Q8:=decide_eq_true c7
 have ajd:decide (0 < fk.length)=true:=decide_eq_true ay
 clear c7
 obtain ⟨iA,TI⟩:∃ y_:List (iN),y_=(fk.set (0:Int).toNat (⟨(⟨(bg fk 0).f0.f0,(bg fk 0).f0.f1,(bg fk 0).f0.f2⟩:sD),(bg fk 0).f1,(bg fk 0).f2,wrap64 (a2)⟩:iN)):=⟨_,rfl⟩
 replace H:((ku.f).bind fun vr=>((eO.f k vr.1 vr.2 1 0 0 0 gy gD eA gW ig iq iA eG (wrap64 (a2))).bind fun qN=>((cA.f k iZ (wrap64 (1 + (wrap64 (Int.tmod a1 1000))))).bind fun vv=>(aq.l0 k l3 iZ (wrap64 (1 + (wrap64 (Int.tmod a1 1000)))) qN.2.2 vv 0 0 iZ (iZ.length:Int) 0 gy gD eA gW ig iq iA eG (wrap64 (a2)) qN.1 qN.2.1))))=some r:=by (have H2_ :=(Option.bind_some _ _).symm.trans H;rw [TI];with_reducible exact H2_)
 have amt:=ah.mk TI
 clear TI
 obtain ⟨⟨Gg,zL⟩,A9,H⟩:=bd_ H
 (try dsimp only at H)
 obtain ⟨⟨uz,rV,IP⟩,Re,H⟩:=bd_ H
 (try dsimp only at H)
 obtain ⟨vv,A11,H⟩:=bd_ H
 have H':=ah.mk H
 clear H
 go_enter Tryz.func3,Tryz.ntmps3
 try go_wp2_with (first|((with_reducible refine bq (f:=13) rfl ?_);refine cK (some 24) rfl rfl Tryz.func13 aR rfl #[.slice A0 l0.length c0] rfl dc ?_;(with_reducible refine (ck.calls k _ _ l0 iZ _ ?aX ?bF A5.out).mono ?_);(case aX=>repeat (exact nr.out));(case bF=>exact sU.out);rintro e w12 ⟨aaD,rfl,ho0,hb⟩;refine ⟨_,rfl,?_⟩;have iU:=ah.mk (Kd.cN ho0 (bL aD));replace HB:=ah.mk (aA aD hb);(try clear hb);(try clear ho0))|((with_reducible refine bI (N:=29) rfl ?_);(try (refine bT (by rfl) ?_;dsimp only));refine Kd.kZ Kd.string _ 9 ?hg (N:=29) ?hd (xs:=([(⟨#[120]⟩:ByteArray)]:List ByteArray)) (inner:=[.string (⟨#[120]⟩:ByteArray)]) (ok:=fun _ =>True) (oQ:=fun _ =>True) ?hr ?hp (fun _ hk=>hk) trivial (Below.refl _ _) (Nat.le_refl _) cO ?_;(case hd=>rfl);(case hg=>rfl);(case hr=>(go_simp;done));(case hp=>exact (dn.one (show Kd.M Kd.string _ _ _ (⟨#[120]⟩:ByteArray) [.string (⟨#[120]⟩:ByteArray)] from rfl) (dn.none _ _)));intro aKs rX J9 hb qc fV;clear qc fV;(rw [← ams.out] at J9);replace iU:=ah.mk (Kd.aM nD hb);have je:=ah.mk (Kd.cN J9 (bL aD));replace HB:=ah.mk (aA aD hb);clear hb J9;obtain ⟨qK,qL,Sc⟩:=Kd.cM je.out;subst Sc)|((with_reducible refine bq (f:=14) rfl ?_);refine cK (some 30) rfl rfl Tryz.func14 aR rfl #[.int .i64 1,.string (⟨#[97]⟩:ByteArray),.slice qK um.length qL] rfl dc ?_;(with_reducible refine (bC.calls k 1 (⟨#[97]⟩:ByteArray) _ _ um gy gD eA gW ig iq fk eG Cu _ ?aX ?bF A6.out).mono ?_);(case aX=>repeat (exact (Kd.aZ je.out).2.2));(case bF=>exact (Kd.aZ je.out).2.1);rintro e sJ ⟨aKt,aKu,aKv,rfl,ho0,zk,xH,hb⟩;refine ⟨_,rfl,?_⟩;replace iU:=ah.mk (Kd.aM nD hb);have iE:=ah.mk (Kd.cN (Kd.iR ho0 (Kd.iD kM)) (bL aD));replace je:=ah.mk (Kd.fo kM (Kd.gu ho0) hb);have fY:=ah.mk (Kd.cN zk (bL aD));have iF:=ah.mk (Kd.cN xH (bL aD));replace HB:=ah.mk (aA aD hb);(try clear hb);(try clear ho0);(try clear zk);(try clear xH))|((with_reducible refine bI (N:=11) rfl ?_);(try (refine bT (by rfl) ?_;dsimp only));refine bR ?hg (N:=11) ?hd (cs:=#[.int .i64 0,.bool false,.slice none 0 0,.string (⟨#[]⟩:ByteArray),.string (⟨#[]⟩:ByteArray),.bool false,.slice none 0 0,.slice none 0 0,.int .i64 0]) (t:=34) ?hr ?_;(case hd=>rfl);(case hg=>rfl);(case hr=>(go_simp;done));intro bA hg wj b9 hb;replace iU:=ah.mk (Kd.aM nD hb);replace je:=ah.mk (Kd.aM kM hb);replace iE:=ah.mk (Kd.aM lW hb);replace fY:=ah.mk (Kd.aM lX hb);replace iF:=ah.mk (Kd.aM lY hb);have aV:=ah.mk (b9);have aHn:=ah.mk ((bZ:w.heap.size≤bA));have agx:=ah.mk ((bZ:w.heap.size≤bA));replace HB:=ah.mk (aA aD hb);clear hb b9 hg;have ya:wj.cell? ⟨bA,0,none⟩=some (.int .i64 0):=(af aV.out 0).trans rfl;have yc:wj.cell? ⟨bA,1,none⟩=some (.bool false):=(af aV.out 1).trans rfl;have yf:wj.cell? ⟨bA,2,none⟩=some (.slice none 0 0):=(af aV.out 2).trans rfl;have yg:wj.cell? ⟨bA,3,none⟩=some (.string (⟨#[]⟩:ByteArray)):=(af aV.out 3).trans rfl;have yh:wj.cell? ⟨bA,4,none⟩=some (.string (⟨#[]⟩:ByteArray)):=(af aV.out 4).trans rfl;have AE:wj.cell? ⟨bA,5,none⟩=some (.bool false):=(af aV.out 5).trans rfl;have ES:wj.cell? ⟨bA,6,none⟩=some (.slice none 0 0):=(af aV.out 6).trans rfl;have ET:wj.cell? ⟨bA,7,none⟩=some (.slice none 0 0):=(af aV.out 7).trans rfl;have EU:wj.cell? ⟨bA,8,none⟩=some (.int .i64 0):=(af aV.out 8).trans rfl;have yj:=aa aV.out 0;have yl:=aa aV.out 1;have ym:=aa aV.out 2;have yq:=aa aV.out 3;have yt:=aa aV.out 4;have AG:=aa aV.out 5;have EW:=aa aV.out 6;have EX:=aa aV.out 7;have EY:=aa aV.out 8;obtain ⟨fy,fA,ad9⟩:=Kd.cM iE.out;subst ad9;obtain ⟨xm,fJ,aDd⟩:=Kd.cM fY.out;subst aDd;obtain ⟨fS,fT,adv⟩:=Kd.cM iF.out;subst adv)|((with_reducible refine nE (t:=34) (p:=11) rfl ?_);refine mH (t:=34) (p:=11) (v:=?aDe) (w1:=(((((((((wj.setCell ⟨bA,0,none⟩ (.int .i64 gy)).setCell ⟨bA,1,none⟩ (.bool gD)).setCell ⟨bA,2,none⟩ (.slice fy eA.length fA)).setCell ⟨bA,3,none⟩ (.string gW)).setCell ⟨bA,4,none⟩ (.string ig)).setCell ⟨bA,5,none⟩ (.bool iq)).setCell ⟨bA,6,none⟩ (.slice xm fk.length fJ)).setCell ⟨bA,7,none⟩ (.slice fS eG.length fT)).setCell ⟨bA,8,none⟩ (.int .i64 Cu))) ?hg ?ho ?hn ?hr ?_;(case ho=>rfl);(case hg=>rfl);(case hn=>rfl);(case hr=>(go_simp;done));intro zR hw;have jF:ah (Kd.R (Kd.int .i64) 3 zR w.heap.size (fun _ =>True) aaD iZ):=⟨(by rw [hw];exact (by exact Kd.cu (Kd.au (p:=⟨bA,8,none⟩) (Kd.au (p:=⟨bA,7,none⟩) (Kd.au (p:=⟨bA,6,none⟩) (Kd.au (p:=⟨bA,5,none⟩) (Kd.au (p:=⟨bA,4,none⟩) (Kd.au (p:=⟨bA,3,none⟩) (Kd.au (p:=⟨bA,2,none⟩) (Kd.au (p:=⟨bA,1,none⟩) (Kd.au (p:=⟨bA,0,none⟩) (Kd.cj iU.out aV.out bE) (fun _ hk=>hk.2) (.int .i64 gy)) (fun _ hk=>hk.2) (.bool gD)) (fun _ hk=>hk.2) (.slice fy eA.length fA)) (fun _ hk=>hk.2) (.string gW)) (fun _ hk=>hk.2) (.string ig)) (fun _ hk=>hk.2) (.bool iq)) (fun _ hk=>hk.2) (.slice xm fk.length fJ)) (fun _ hk=>hk.2) (.slice fS eG.length fT)) (fun _ hk=>hk.2) (.int .i64 Cu)) (fun _ hk=>trivial)))⟩;have jG:ah (Kd.R Kd.string 9 zR w.heap.size (fun k_ =>some k_≠(.slice fy eA.length fA:Value).ownBlock) (.slice qK um.length qL) um):=⟨(by rw [hw];exact (by exact Kd.cu (Kd.au (p:=⟨bA,8,none⟩) (Kd.au (p:=⟨bA,7,none⟩) (Kd.au (p:=⟨bA,6,none⟩) (Kd.au (p:=⟨bA,5,none⟩) (Kd.au (p:=⟨bA,4,none⟩) (Kd.au (p:=⟨bA,3,none⟩) (Kd.au (p:=⟨bA,2,none⟩) (Kd.au (p:=⟨bA,1,none⟩) (Kd.au (p:=⟨bA,0,none⟩) (Kd.cj je.out aV.out bE) (fun _ hk=>hk.2) (.int .i64 gy)) (fun _ hk=>hk.2) (.bool gD)) (fun _ hk=>hk.2) (.slice fy eA.length fA)) (fun _ hk=>hk.2) (.string gW)) (fun _ hk=>hk.2) (.string ig)) (fun _ hk=>hk.2) (.bool iq)) (fun _ hk=>hk.2) (.slice xm fk.length fJ)) (fun _ hk=>hk.2) (.slice fS eG.length fT)) (fun _ hk=>hk.2) (.int .i64 Cu)) (fun _ hk=>hk.1.2)))⟩;have mA:ah (Kd.R Kd.string 9 zR w.heap.size (fun k_ =>some k_≠(.slice qK um.length qL:Value).ownBlock) (.slice fy eA.length fA) eA):=⟨(by rw [hw];exact (by exact Kd.cu (Kd.au (p:=⟨bA,8,none⟩) (Kd.au (p:=⟨bA,7,none⟩) (Kd.au (p:=⟨bA,6,none⟩) (Kd.au (p:=⟨bA,5,none⟩) (Kd.au (p:=⟨bA,4,none⟩) (Kd.au (p:=⟨bA,3,none⟩) (Kd.au (p:=⟨bA,2,none⟩) (Kd.au (p:=⟨bA,1,none⟩) (Kd.au (p:=⟨bA,0,none⟩) (Kd.cj iE.out aV.out bE) (fun _ hk=>hk.2) (.int .i64 gy)) (fun _ hk=>hk.2) (.bool gD)) (fun _ hk=>hk.2) (.slice fy eA.length fA)) (fun _ hk=>hk.2) (.string gW)) (fun _ hk=>hk.2) (.string ig)) (fun _ hk=>hk.2) (.bool iq)) (fun _ hk=>hk.2) (.slice xm fk.length fJ)) (fun _ hk=>hk.2) (.slice fS eG.length fT)) (fun _ hk=>hk.2) (.int .i64 Cu)) (fun _ hk=>hk.1.2)))⟩;have nG:ah (Kd.R mV 37 zR w.heap.size (fun _ =>True) (.slice xm fk.length fJ) fk):=⟨(by rw [hw];exact (by exact Kd.cu (Kd.au (p:=⟨bA,8,none⟩) (Kd.au (p:=⟨bA,7,none⟩) (Kd.au (p:=⟨bA,6,none⟩) (Kd.au (p:=⟨bA,5,none⟩) (Kd.au (p:=⟨bA,4,none⟩) (Kd.au (p:=⟨bA,3,none⟩) (Kd.au (p:=⟨bA,2,none⟩) (Kd.au (p:=⟨bA,1,none⟩) (Kd.au (p:=⟨bA,0,none⟩) (Kd.cj fY.out aV.out bE) (fun _ hk=>hk.2) (.int .i64 gy)) (fun _ hk=>hk.2) (.bool gD)) (fun _ hk=>hk.2) (.slice fy eA.length fA)) (fun _ hk=>hk.2) (.string gW)) (fun _ hk=>hk.2) (.string ig)) (fun _ hk=>hk.2) (.bool iq)) (fun _ hk=>hk.2) (.slice xm fk.length fJ)) (fun _ hk=>hk.2) (.slice fS eG.length fT)) (fun _ hk=>hk.2) (.int .i64 Cu)) (fun _ hk=>trivial)))⟩;have nU:ah (Kd.R (Kd.int .u8) 5 zR w.heap.size (fun _ =>True) (.slice fS eG.length fT) eG):=⟨(by rw [hw];exact (by exact Kd.cu (Kd.au (p:=⟨bA,8,none⟩) (Kd.au (p:=⟨bA,7,none⟩) (Kd.au (p:=⟨bA,6,none⟩) (Kd.au (p:=⟨bA,5,none⟩) (Kd.au (p:=⟨bA,4,none⟩) (Kd.au (p:=⟨bA,3,none⟩) (Kd.au (p:=⟨bA,2,none⟩) (Kd.au (p:=⟨bA,1,none⟩) (Kd.au (p:=⟨bA,0,none⟩) (Kd.cj iF.out aV.out bE) (fun _ hk=>hk.2) (.int .i64 gy)) (fun _ hk=>hk.2) (.bool gD)) (fun _ hk=>hk.2) (.slice fy eA.length fA)) (fun _ hk=>hk.2) (.string gW)) (fun _ hk=>hk.2) (.string ig)) (fun _ hk=>hk.2) (.bool iq)) (fun _ hk=>hk.2) (.slice xm fk.length fJ)) (fun _ hk=>hk.2) (.slice fS eG.length fT)) (fun _ hk=>hk.2) (.int .i64 Cu)) (fun _ hk=>trivial)))⟩;have oV:ah (zR.heap[bA]? =some (.cells #[.int .i64 gy,.bool gD,.slice fy eA.length fA,.string gW,.string ig,.bool iq,.slice xm fk.length fJ,.slice fS eG.length fT,.int .i64 Cu] 34 (0,0))):=⟨(by rw [hw];exact (by refine aH (cs:=#[.int .i64 gy,.bool gD,.slice fy eA.length fA,.string gW,.string ig,.bool iq,.slice xm fk.length fJ,.slice fS eG.length fT,.int .i64 0]) ?_ 8 _ rfl;refine aH (cs:=#[.int .i64 gy,.bool gD,.slice fy eA.length fA,.string gW,.string ig,.bool iq,.slice xm fk.length fJ,.slice none 0 0,.int .i64 0]) ?_ 7 _ rfl;refine aH (cs:=#[.int .i64 gy,.bool gD,.slice fy eA.length fA,.string gW,.string ig,.bool iq,.slice none 0 0,.slice none 0 0,.int .i64 0]) ?_ 6 _ rfl;refine aH (cs:=#[.int .i64 gy,.bool gD,.slice fy eA.length fA,.string gW,.string ig,.bool false,.slice none 0 0,.slice none 0 0,.int .i64 0]) ?_ 5 _ rfl;refine aH (cs:=#[.int .i64 gy,.bool gD,.slice fy eA.length fA,.string gW,.string (⟨#[]⟩:ByteArray),.bool false,.slice none 0 0,.slice none 0 0,.int .i64 0]) ?_ 4 _ rfl;refine aH (cs:=#[.int .i64 gy,.bool gD,.slice fy eA.length fA,.string (⟨#[]⟩:ByteArray),.string (⟨#[]⟩:ByteArray),.bool false,.slice none 0 0,.slice none 0 0,.int .i64 0]) ?_ 3 _ rfl;refine aH (cs:=#[.int .i64 gy,.bool gD,.slice none 0 0,.string (⟨#[]⟩:ByteArray),.string (⟨#[]⟩:ByteArray),.bool false,.slice none 0 0,.slice none 0 0,.int .i64 0]) ?_ 2 _ rfl;refine aH (cs:=#[.int .i64 gy,.bool false,.slice none 0 0,.string (⟨#[]⟩:ByteArray),.string (⟨#[]⟩:ByteArray),.bool false,.slice none 0 0,.slice none 0 0,.int .i64 0]) ?_ 1 _ rfl;refine aH (cs:=#[.int .i64 0,.bool false,.slice none 0 0,.string (⟨#[]⟩:ByteArray),.string (⟨#[]⟩:ByteArray),.bool false,.slice none 0 0,.slice none 0 0,.int .i64 0]) ?_ 0 _ rfl;exact aV.out))⟩;have rI:ah (Below w.heap.size w zR):=⟨KN⟩;clear hw;clear iU;clear je;clear iE;clear fY;clear iF;clear aV;clear HB;have iU:=jF;have je:=jG;have iE:=mA;have fY:=nG;have iF:=nU;have aV:=oV;have HB:=rI;clear jF jG mA nG nU oV rI;have Md:zR.cell? ⟨bA,0,none⟩=some (.int .i64 gy):=(af aV.out 0).trans rfl;have Me:zR.cell? ⟨bA,1,none⟩=some (.bool gD):=(af aV.out 1).trans rfl;have Mf:zR.cell? ⟨bA,2,none⟩=some (.slice fy eA.length fA):=(af aV.out 2).trans rfl;have Mg:zR.cell? ⟨bA,3,none⟩=some (.string gW):=(af aV.out 3).trans rfl;have Mh:zR.cell? ⟨bA,4,none⟩=some (.string ig):=(af aV.out 4).trans rfl;have VR:zR.cell? ⟨bA,5,none⟩=some (.bool iq):=(af aV.out 5).trans rfl;have VS:zR.cell? ⟨bA,6,none⟩=some (.slice xm fk.length fJ):=(af aV.out 6).trans rfl;have VT:zR.cell? ⟨bA,7,none⟩=some (.slice fS eG.length fT):=(af aV.out 7).trans rfl;have VU:zR.cell? ⟨bA,8,none⟩=some (.int .i64 Cu):=(af aV.out 8).trans rfl;have Mi:=aa aV.out 0;have Mj:=aa aV.out 1;have Mk:=aa aV.out 2;have Mm:=aa aV.out 3;have Mn:=aa aV.out 4;have VV:=aa aV.out 5;have VW:=aa aV.out 6;have VX:=aa aV.out 7;have VY:=aa aV.out 8)|((with_reducible refine nE (t:=3) (p:=33) rfl ?_);refine mH (t:=3) (p:=33) (v:=?aDf) (w1:=(zR.setCell ⟨bA,8,none⟩ (.int .i64 (wrap64 (a2))))) ?hg ?ho ?hn ?hr ?_;(case ho=>rfl);(case hg=>rfl);(case hn=>rfl);(case hr=>(go_simp;done));intro pM hw;have jF:ah (Kd.R (Kd.int .i64) 3 pM w.heap.size (fun _ =>True) aaD iZ):=⟨(by rw [hw];exact (by exact Kd.cu (Kd.au (p:=⟨bA,8,none⟩) (Kd.cj iU.out aV.out bE) (fun _ hk=>hk.2) (.int .i64 (wrap64 (a2)))) (fun _ hk=>trivial)))⟩;have jG:ah (Kd.R Kd.string 9 pM w.heap.size (fun k_ =>some k_≠(.slice fy eA.length fA:Value).ownBlock) (.slice qK um.length qL) um):=⟨(by rw [hw];exact (by exact Kd.cu (Kd.au (p:=⟨bA,8,none⟩) (Kd.cj je.out aV.out bE) (fun _ hk=>hk.2) (.int .i64 (wrap64 (a2)))) (fun _ hk=>hk.1)))⟩;have mA:ah (Kd.R Kd.string 9 pM w.heap.size (fun k_ =>some k_≠(.slice qK um.length qL:Value).ownBlock) (.slice fy eA.length fA) eA):=⟨(by rw [hw];exact (by exact Kd.cu (Kd.au (p:=⟨bA,8,none⟩) (Kd.cj iE.out aV.out bE) (fun _ hk=>hk.2) (.int .i64 (wrap64 (a2)))) (fun _ hk=>hk.1)))⟩;have nG:ah (Kd.R mV 37 pM w.heap.size (fun _ =>True) (.slice xm fk.length fJ) fk):=⟨(by rw [hw];exact (by exact Kd.cu (Kd.au (p:=⟨bA,8,none⟩) (Kd.cj fY.out aV.out bE) (fun _ hk=>hk.2) (.int .i64 (wrap64 (a2)))) (fun _ hk=>trivial)))⟩;have nU:ah (Kd.R (Kd.int .u8) 5 pM w.heap.size (fun _ =>True) (.slice fS eG.length fT) eG):=⟨(by rw [hw];exact (by exact Kd.cu (Kd.au (p:=⟨bA,8,none⟩) (Kd.cj iF.out aV.out bE) (fun _ hk=>hk.2) (.int .i64 (wrap64 (a2)))) (fun _ hk=>trivial)))⟩;have oV:ah (pM.heap[bA]? =some (.cells #[.int .i64 gy,.bool gD,.slice fy eA.length fA,.string gW,.string ig,.bool iq,.slice xm fk.length fJ,.slice fS eG.length fT,.int .i64 (wrap64 (a2))] 34 (0,0))):=⟨(by rw [hw];exact (by refine aH (cs:=#[.int .i64 gy,.bool gD,.slice fy eA.length fA,.string gW,.string ig,.bool iq,.slice xm fk.length fJ,.slice fS eG.length fT,.int .i64 Cu]) ?_ 8 _ rfl;exact aV.out))⟩;have rI:ah (Below w.heap.size w pM):=⟨KN⟩;clear hw;clear iU;clear je;clear iE;clear fY;clear iF;clear aV;clear HB;have iU:=jF;have je:=jG;have iE:=mA;have fY:=nG;have iF:=nU;have aV:=oV;have HB:=rI;clear jF jG mA nG nU oV rI;have Ak:pM.cell? ⟨bA,0,none⟩=some (.int .i64 gy):=(af aV.out 0).trans rfl;have Al:pM.cell? ⟨bA,1,none⟩=some (.bool gD):=(af aV.out 1).trans rfl;have Am:pM.cell? ⟨bA,2,none⟩=some (.slice fy eA.length fA):=(af aV.out 2).trans rfl;have Dz:pM.cell? ⟨bA,3,none⟩=some (.string gW):=(af aV.out 3).trans rfl;have DA:pM.cell? ⟨bA,4,none⟩=some (.string ig):=(af aV.out 4).trans rfl;have LW:pM.cell? ⟨bA,5,none⟩=some (.bool iq):=(af aV.out 5).trans rfl;have LX:pM.cell? ⟨bA,6,none⟩=some (.slice xm fk.length fJ):=(af aV.out 6).trans rfl;have LY:pM.cell? ⟨bA,7,none⟩=some (.slice fS eG.length fT):=(af aV.out 7).trans rfl;have LZ:pM.cell? ⟨bA,8,none⟩=some (.int .i64 (wrap64 (a2))):=(af aV.out 8).trans rfl;have Ao:=aa aV.out 0;have Ap:=aa aV.out 1;have Aq:=aa aV.out 2;have DB:=aa aV.out 3;have DC:=aa aV.out 4;have L1:=aa aV.out 5;have L3:=aa aV.out 6;have L4:=aa aV.out 7;have L5:=aa aV.out 8;have p8: 0≤(0:Int):=ay;have q8:(0:Int) < ((fk.length:Int):Int):=of_decide_eq_true cP;have qi8:(0 < fk.length)=True:=eq_true ay;obtain ⟨lu,co8,eo8,gb8,gl8,cl8,HG8⟩:=Kd.wV fY.out ay;(cases eo8);have GB8:=ah.mk gb8;have GG8:=ah.mk HG8;clear gb8 gl8 HG8;obtain ⟨ce8,aDg,hM8,Kn,Ko⟩:=Kd.uM fY.out z37 (0:Int) p8 q8;obtain rfl:=pE hM8;have acr:pM.cell? ⟨lu,(0:Int).toNat * 6,none⟩=some (.string ((bg fk 0).f0.f0)):=Kn 0 _ rfl;have acs:pM.cell? ⟨lu,(0:Int).toNat * 6 + 1,none⟩=some (.string ((bg fk 0).f0.f1)):=Kn 1 _ rfl;have acu:pM.cell? ⟨lu,(0:Int).toNat * 6 + 2,none⟩=some (.bool ((bg fk 0).f0.f2)):=Kn 2 _ rfl;have acv:pM.cell? ⟨lu,(0:Int).toNat * 6 + 3,none⟩=some (.int .u8 ((bg fk 0).f1)):=Kn 3 _ rfl;have acw:pM.cell? ⟨lu,(0:Int).toNat * 6 + 4,none⟩=some (.int .i64 ((bg fk 0).f2)):=Kn 4 _ rfl;have acy:pM.cell? ⟨lu,(0:Int).toNat * 6 + 5,none⟩=some (.int .i64 ((bg fk 0).f3)):=Kn 5 _ rfl;have acz:pM.frozen? ⟨lu,(0:Int).toNat * 6,none⟩=false:=Ko 0;have acA:pM.frozen? ⟨lu,(0:Int).toNat * 6 + 1,none⟩=false:=Ko 1;have acB:pM.frozen? ⟨lu,(0:Int).toNat * 6 + 2,none⟩=false:=Ko 2;have acC:pM.frozen? ⟨lu,(0:Int).toNat * 6 + 3,none⟩=false:=Ko 3;have acD:pM.frozen? ⟨lu,(0:Int).toNat * 6 + 4,none⟩=false:=Ko 4;have acE:pM.frozen? ⟨lu,(0:Int).toNat * 6 + 5,none⟩=false:=Ko 5;clear aDg Kn Ko hM8;(try rw [show ((0:Int)).toNat=0 from rfl] at acr);(try simp only [Nat.reduceMul,Nat.zero_mul,Nat.zero_add,Nat.reduceAdd] at acr);(try rw [show ((0:Int)).toNat=0 from rfl] at acz);(try simp only [Nat.reduceMul,Nat.zero_mul,Nat.zero_add,Nat.reduceAdd] at acz);(try rw [show ((0:Int)).toNat=0 from rfl] at acs);(try simp only [Nat.reduceMul,Nat.zero_mul,Nat.zero_add,Nat.reduceAdd] at acs);(try rw [show ((0:Int)).toNat=0 from rfl] at acA);(try simp only [Nat.reduceMul,Nat.zero_mul,Nat.zero_add,Nat.reduceAdd] at acA);(try rw [show ((0:Int)).toNat=0 from rfl] at acu);(try simp only [Nat.reduceMul,Nat.zero_mul,Nat.zero_add,Nat.reduceAdd] at acu);(try rw [show ((0:Int)).toNat=0 from rfl] at acB);(try simp only [Nat.reduceMul,Nat.zero_mul,Nat.zero_add,Nat.reduceAdd] at acB);(try rw [show ((0:Int)).toNat=0 from rfl] at acv);(try simp only [Nat.reduceMul,Nat.zero_mul,Nat.zero_add,Nat.reduceAdd] at acv);(try rw [show ((0:Int)).toNat=0 from rfl] at acC);(try simp only [Nat.reduceMul,Nat.zero_mul,Nat.zero_add,Nat.reduceAdd] at acC);(try rw [show ((0:Int)).toNat=0 from rfl] at acw);(try simp only [Nat.reduceMul,Nat.zero_mul,Nat.zero_add,Nat.reduceAdd] at acw);(try rw [show ((0:Int)).toNat=0 from rfl] at acD);(try simp only [Nat.reduceMul,Nat.zero_mul,Nat.zero_add,Nat.reduceAdd] at acD);(try rw [show ((0:Int)).toNat=0 from rfl] at acy);(try simp only [Nat.reduceMul,Nat.zero_mul,Nat.zero_add,Nat.reduceAdd] at acy);(try rw [show ((0:Int)).toNat=0 from rfl] at acE);(try simp only [Nat.reduceMul,Nat.zero_mul,Nat.zero_add,Nat.reduceAdd] at acE);replace p8:=eq_true p8;replace q8:=eq_true q8;have amu:=ah.mk (show Kd.R mV 37 pM w.heap.size (fun _ =>True) (.slice (some ⟨lu,0,none⟩) fk.length fJ) fk from lX);obtain ⟨aKz,acF,amv,TJ,acG⟩:=Kd.uM amu.out z37 (0:Int) ay (by have h_:(0:Int) < ((fk.length:Int):Int):=of_decide_eq_true cP;exact h_);obtain rfl:=pE amv;have aeR:=Kd.K6 amu.out (0:Int) ay (by have h_:(0:Int) < ((fk.length:Int):Int):=of_decide_eq_true cP;exact h_) (seg:=[.int .i64 (wrap64 (a2))]) (j:=5) acF TJ (show 6≤6 from by decide) (x':=(⟨(⟨(bg fk 0).f0.f0,(bg fk 0).f0.f1,(bg fk 0).f0.f2⟩:sD),(bg fk 0).f1,(bg fk 0).f2,wrap64 (a2)⟩:iN)) (tF _ _ _ (⟨(⟨(bg fk 0).f0.f0,(bg fk 0).f0.f1,(bg fk 0).f0.f2⟩:sD),(bg fk 0).f1,(bg fk 0).f2,wrap64 (a2)⟩:iN)) (fun _ hk=>hk);have Kp:=TJ 5 _ rfl;(try simp only [show (mV).sz=6 from rfl,Nat.mul_one,Nat.add_zero] at Kp);(try rw [show ((0:Int)).toNat=0 from rfl] at Kp);(try simp only [Nat.reduceMul,Nat.zero_mul,Nat.zero_add,Nat.reduceAdd] at Kp);have Kq:=acG 5;(try simp only [show (mV).sz=6 from rfl,Nat.mul_one,Nat.add_zero] at Kq);(try rw [show ((0:Int)).toNat=0 from rfl] at Kq);(try simp only [Nat.reduceMul,Nat.zero_mul,Nat.zero_add,Nat.reduceAdd] at Kq);clear acF TJ acG amv)|((with_reducible refine nE (t:=3) (p:=39) rfl ?_);refine mH (t:=3) (p:=39) (v:=?aDh) (w1:=(pM.setCell ⟨lu,5,none⟩ (.int .i64 (wrap64 (a2))))) ?hg ?ho ?hn ?hr ?_;(case ho=>rfl);(case hg=>rfl);(case hn=>rfl);(case hr=>(go_simp;done));intro zV hw;have hg:pM.grownBy zV (some lu):=(by rw [hw];exact aeR.2);have hp_:Kd.R mV 37 zV w.heap.size (fun _ =>True) (.slice (some ⟨lu,0,none⟩) fk.length fJ) iA:=(by rw [hw,amt.out];exact aeR.1);clear aeR;replace iU:=ah.mk (Kd.mg (v:=(.slice (some ⟨lu,0,none⟩) fk.length fJ)) nD (Kd.lC fY.out) bE hg);replace je:=ah.mk (Kd.mg (v:=(.slice (some ⟨lu,0,none⟩) fk.length fJ)) kM (Kd.lC fY.out) bE hg);replace iE:=ah.mk (Kd.mg (v:=(.slice (some ⟨lu,0,none⟩) fk.length fJ)) lW (Kd.lC fY.out) bE hg);replace iF:=ah.mk (Kd.mg (v:=(.slice (some ⟨lu,0,none⟩) fk.length fJ)) lY (Kd.lC fY.out) bE hg);replace aV:=ah.mk (gZ (g:=bA) (o:= .cells #[.int .i64 gy,.bool gD,.slice fy eA.length fA,.string gW,.string ig,.bool iq,.slice (some ⟨lu,0,none⟩) fk.length fJ,.slice fS eG.length fT,.int .i64 (wrap64 (a2))] 34 (0,0)) gI hg (Kd.zu fY.out aV.out bE));replace fY:=ah.mk (hp_);replace HB:=ah.mk ((by rw [hw];exact dN (HB.out) GB8.out:Below w.heap.size w zV));clear hg hw hp_))
 have jF:=ah.mk (Kd.Bf iU.out)
 have jG:=ah.mk (Kd.Bf je.out)
 have mA:=ah.mk (Kd.Bf iE.out)
 have nG:=ah.mk (Kd.Bf fY.out)
 have nU:=ah.mk (Kd.Bf iF.out)
 have oV:=ah.mk (ng aV.out)
 have rI:=ah.mk (jI HB.out)
 clear iU
 clear je
 clear iE
 clear fY
 clear iF
 clear aV
 clear HB
 have iU:=jF
 have je:=jG
 have iE:=mA
 have fY:=nG
 have iF:=nU
 have aV:=oV
 have HB:=rI
 clear jF jG mA nG nU oV rI
 refine uN (n:=10) (S:=fun w'=>w'.cell? ⟨bA,0,none⟩=some (.int .i64 gy)∧w'.cell? ⟨bA,1,none⟩=some (.bool gD)∧w'.cell? ⟨bA,2,none⟩=some (.slice fy eA.length fA)∧w'.cell? ⟨bA,3,none⟩=some (.string gW)∧w'.cell? ⟨bA,4,none⟩=some (.string ig)∧w'.cell? ⟨bA,5,none⟩=some (.bool iq)∧w'.cell? ⟨bA,6,none⟩=some (.slice (some ⟨lu,0,none⟩) fk.length fJ)∧w'.cell? ⟨bA,7,none⟩=some (.slice fS eG.length fT)∧w'.cell? ⟨bA,8,none⟩=some (.int .i64 (wrap64 (a2)))) (ds:=[]) #[false,false,false,false,false,false,false,false,false,false] aR (by rfl) (by rfl) ⟨(af aV.out 0).trans rfl,(af aV.out 1).trans rfl,(af aV.out 2).trans rfl,(af aV.out 3).trans rfl,(af aV.out 4).trans rfl,(af aV.out 5).trans rfl,(af aV.out 6).trans rfl,(af aV.out 7).trans rfl,(af aV.out 8).trans rfl⟩ (fun hHeld=>?_);refine pz aq.adT aq.Sd (fun iG Cs=>?_)
 generalize zV.drew=w28 at iU je iE fY iF aV HB hHeld ⊢
 refine nL (i:=1) (N:=some 42) #[false,true,false,false,false,false,false,false,false,false] rfl rfl (jS iG.out Cs.out aR) (fun _ _ _ h=>h) (Or.inl ⟨by rfl,CQ⟩) hHeld rfl ?_
 refine dS (i:=2) (N:=some 43) #[false,true,true,false,false,false,false,false,false,false] rfl rfl (cY iG.out aR) (fun _ _ _ h=>h) (Or.inl ⟨by rfl,ez⟩) rfl ?_
 refine agE (σ:=Value×Value×Nat) 2 #[true,true,true,true,true,true,true,true,false,false] (fun s_ =>[(41,.agg #[.int .i64 Gg,s_.1]),(44,.tuple #[.agg #[.int .i64 uz,s_.2.1],.int .i64 IP]),(12,.pointer (some ⟨s_.2.2,0,none⟩)),(40,.tuple #[.agg #[.int .i64 uz,s_.2.1],.int .i64 IP]),(45,.agg #[.int .i64 uz,s_.2.1]),(46,.int .i64 IP)]) (fun s_ w'=>(w'.cell? ⟨bA,0,none⟩=some (.int .i64 gy)∧w'.cell? ⟨bA,1,none⟩=some (.bool gD)∧w'.cell? ⟨bA,2,none⟩=some (.slice fy eA.length fA)∧w'.cell? ⟨bA,3,none⟩=some (.string gW)∧w'.cell? ⟨bA,4,none⟩=some (.string ig)∧w'.cell? ⟨bA,5,none⟩=some (.bool iq)∧w'.cell? ⟨bA,6,none⟩=some (.slice (some ⟨lu,0,none⟩) fk.length fJ)∧w'.cell? ⟨bA,7,none⟩=some (.slice fS eG.length fT)∧w'.cell? ⟨bA,8,none⟩=some (.int .i64 (wrap64 (a2))))∧(Kd.R (Kd.int .i64) 3 w' w.heap.size (fun _ =>True) aaD iZ)∧(Kd.R Kd.string 9 w' w.heap.size (fun k_ =>some k_≠(.slice fy eA.length fA:Value).ownBlock) (.slice qK um.length qL) um)∧(Kd.R Kd.string 9 w' w.heap.size (fun k_ =>some k_≠(.slice qK um.length qL:Value).ownBlock) (.slice fy eA.length fA) eA)∧(Kd.R mV 37 w' w.heap.size (fun _ =>True) (.slice (some ⟨lu,0,none⟩) fk.length fJ) iA)∧(Kd.R (Kd.int .u8) 5 w' w.heap.size (fun _ =>True) (.slice fS eG.length fT) eG)∧(Kd.S Cb 34 w' w.heap.size (fun k_ =>some k_≠(.slice qK um.length qL:Value).ownBlock∧some k_≠(.slice fy eA.length fA:Value).ownBlock∧some k_≠(.slice (some ⟨lu,0,none⟩) fk.length fJ:Value).ownBlock∧some k_≠(.slice fS eG.length fT:Value).ownBlock∧some k_≠(s_.2.1:Value).ownBlock∧k_≠bA) s_.1 zL)∧(Kd.S Cb 34 w' w.heap.size (fun k_ =>some k_≠(.slice qK um.length qL:Value).ownBlock∧some k_≠(.slice fy eA.length fA:Value).ownBlock∧some k_≠(.slice (some ⟨lu,0,none⟩) fk.length fJ:Value).ownBlock∧some k_≠(.slice fS eG.length fT:Value).ownBlock∧some k_≠(s_.1:Value).ownBlock∧k_≠bA) s_.2.1 rV)∧(w'.heap[bA]? =some (.cells #[.int .i64 gy,.bool gD,.slice fy eA.length fA,.string gW,.string ig,.bool iq,.slice (some ⟨lu,0,none⟩) fk.length fJ,.slice fS eG.length fT,.int .i64 (wrap64 (a2))] 34 (0,0)))∧(w'.heap[s_.2.2]? =some (.cells #[.int .i64 0,.slice none 0 0] 40 (0,0)))∧(w.heap.size≤s_.2.2)∧(w.heap.size≤s_.2.2)∧(bA≠s_.2.2)∧(s_.2.2≠bA)∧(Below w.heap.size w w')) ?_ ?_
 rotate_left
 ·intro TK
  refine agD (i:=0) (j:=7) (Ni:=some 41) (Nj:=some 12) #[true,true,true,false,false,false,false,false,false,false] #[false,true,true,false,false,false,false,true,false,false] rfl rfl rfl rfl (QH iG.out aR) bE bE (fun K hK=>?_) (fun K hK=>?_)
  ·skip
   refine pN Tryz.func16 aR rfl #[] (by rfl) rfl rfl KZ ?_
   with_reducible refine (ku.calls Gg zL _ A9.out).mono ?_
   rintro e w29 ⟨aaE,rfl,ho0,hb⟩
   refine ⟨_,rfl,?_⟩
   have jF:=ah.mk (Kd.aM nD hb)
   have jG:=ah.mk (Kd.aM kM hb)
   have mA:=ah.mk (Kd.aM lW hb)
   have nG:=ah.mk (Kd.aM lX hb)
   have nU:=ah.mk (Kd.aM lY hb)
   have oV:=ah.mk (Kd.qm (Kd.zz (Kd.gi (Kd.gi (Kd.gi (Kd.gi ho0 (Kd.iD kM)) (Kd.iD lW)) (Kd.iD lX)) (Kd.iD lY)) (g:=bA) (o:= .cells #[.int .i64 gy,.bool gD,.slice fy eA.length fA,.string gW,.string ig,.bool iq,.slice (some ⟨lu,0,none⟩) fk.length fJ,.slice fS eG.length fT,.int .i64 (wrap64 (a2))] 34 (0,0)) gI) (bL aD))
   have rI:=ah.mk (aC (g:=bA) (o:= .cells #[.int .i64 gy,.bool gD,.slice fy eA.length fA,.string gW,.string ig,.bool iq,.slice (some ⟨lu,0,none⟩) fk.length fJ,.slice fS eG.length fT,.int .i64 (wrap64 (a2))] 34 (0,0)) gI hb)
   have wK:=ah.mk (aA aD hb)
   clear iU
   clear je
   clear iE
   clear fY
   clear iF
   clear aV
   clear HB
   have iU:=jF
   have je:=jG
   have iE:=mA
   have fY:=nG
   have iF:=nU
   have mF:=oV
   have aV:=rI
   have HB:=wK
   clear jF jG mA nG nU oV rI wK
   obtain ⟨yw,jr,adM⟩:=Kd.ji mF.out
   (subst adM)
   refine hK.out _ _ ⟨(af aV.out 0).trans rfl,(af aV.out 1).trans rfl,(af aV.out 2).trans rfl,(af aV.out 3).trans rfl,(af aV.out 4).trans rfl,(af aV.out 5).trans rfl,(af aV.out 6).trans rfl,(af aV.out 7).trans rfl,(af aV.out 8).trans rfl⟩ (fun hHeld=>?_)
   clear hK K
   refine kI (a':=?_) ?_ ?_
   rotate_left
   ·show Act.put _ (some 41) _=_
    simp only [Act.put,List.setIfInBounds_toArray,List.set_cons_zero,List.set_cons_succ,fU,gj]
    rfl
   refine agD (i:=3) (j:=7) (Ni:=some 44) (Nj:=some 12) #[true,true,true,true,false,false,false,false,false,false] #[true,true,true,false,false,false,false,true,false,false] rfl rfl rfl rfl (QH iG.out aR) bE bE (fun K hK=>?_) (fun K hK=>?_)
   ·skip
    refine pN Tryz.func15 aR rfl #[.agg #[.int .i64 Gg,.slice yw zL.length jr],.agg #[.int .u8 1,.int .i64 0,.int .i64 0,.int .i64 0,.int .i64 gy,.bool gD,.slice fy eA.length fA,.string gW,.string ig,.bool iq,.slice (some ⟨lu,0,none⟩) iA.length fJ,.slice fS eG.length fT,.int .i64 (wrap64 (a2))]] (by rfl) rfl rfl Jk ?_
    with_reducible refine (eO.calls k Gg _ _ zL 1 0 0 0 gy gD _ _ eA gW ig iq _ _ iA _ _ eG (wrap64 (a2)) uz rV IP _ ?aX ?bF ?dU ?jt ?ju ?jv ?pP ?sK ?BR Re.out).mono ?_
    (case aX=>repeat (exact (Kd.gv mF.out).2.2))
    (case bF=>exact (Kd.gv mF.out).2.1)
    (case dU=>repeat (exact (Kd.aZ iE.out).2.2))
    (case jt=>exact (Kd.aZ iE.out).2.1)
    (case ju=>repeat (exact (Kd.aZ fY.out).2.2))
    (case jv=>rw [show iA.length=fk.length from (Kd.aZ fY.out).1.symm];exact (Kd.aZ fY.out).2.1)
    (case pP=>repeat (exact (Kd.aZ iF.out).2.2))
    (case sK=>exact (Kd.aZ iF.out).2.1)
    (case BR=>exact bp.below HG.out aD)
    rintro e w31 ⟨IQ,rfl,ho0,hb⟩
    refine ⟨_,rfl,?_⟩
    have jF:=ah.mk (Kd.aM nD hb)
    have jG:=ah.mk (Kd.aM kM hb)
    have mA:=ah.mk (Kd.aM lW hb)
    have nG:=ah.mk (Kd.aM lX hb)
    have nU:=ah.mk (Kd.aM lY hb)
    have oV:=ah.mk (Kd.xM rD (Kd.Da ho0) hb)
    have rI:=ah.mk (Kd.qm (Kd.zz (Kd.gi (Kd.gi (Kd.gi (Kd.gi (Kd.gi ho0 (Kd.iD kM)) (Kd.iD lW)) (Kd.iD lX)) (Kd.iD lY)) (Kd.O8 rD)) (g:=bA) (o:= .cells #[.int .i64 gy,.bool gD,.slice fy eA.length fA,.string gW,.string ig,.bool iq,.slice (some ⟨lu,0,none⟩) fk.length fJ,.slice fS eG.length fT,.int .i64 (wrap64 (a2))] 34 (0,0)) gI) (bL aD))
    have wK:=ah.mk (aC (g:=bA) (o:= .cells #[.int .i64 gy,.bool gD,.slice fy eA.length fA,.string gW,.string ig,.bool iq,.slice (some ⟨lu,0,none⟩) fk.length fJ,.slice fS eG.length fT,.int .i64 (wrap64 (a2))] 34 (0,0)) gI hb)
    have yz:=ah.mk (aA aD hb)
    clear iU
    clear je
    clear iE
    clear fY
    clear iF
    clear mF
    clear aV
    clear HB
    have iU:=jF
    have je:=jG
    have iE:=mA
    have fY:=nG
    have iF:=nU
    have mF:=oV
    have xw:=rI
    have aV:=wK
    have HB:=yz
    clear jF jG mA nG nU oV rI wK yz
    refine hK.out _ _ ⟨(af aV.out 0).trans rfl,(af aV.out 1).trans rfl,(af aV.out 2).trans rfl,(af aV.out 3).trans rfl,(af aV.out 4).trans rfl,(af aV.out 5).trans rfl,(af aV.out 6).trans rfl,(af aV.out 7).trans rfl,(af aV.out 8).trans rfl⟩ (fun hHeld=>?_)
    clear hK K
    refine kI (a':=?_) ?_ ?_
    rotate_left
    ·show Act.put _ (some 44) _=_
     simp only [Act.put,List.setIfInBounds_toArray,List.set_cons_zero,List.set_cons_succ,fU,gj]
     rfl
    refine dS (i:=4) (N:=some 40) #[true,true,true,true,true,false,false,false,false,false] rfl rfl (cY iG.out aR) (fun _ _ _ h=>h) (Or.inl ⟨by rfl,ez⟩) rfl ?_
    refine dS (i:=5) (N:=some 45) #[true,true,true,true,true,true,false,false,false,false] rfl rfl (cY iG.out aR) (fun _ _ _ h=>h) (Or.inl ⟨by rfl,ez⟩) rfl ?_
    refine dS (i:=6) (N:=some 46) #[true,true,true,true,true,true,true,false,false,false] rfl rfl (cY iG.out aR) (fun _ _ _ h=>h) (Or.inl ⟨by rfl,ez⟩) rfl ?_
    refine rW (i:=7) (N:=some 12) #[true,true,true,true,true,true,true,true,false,false] rfl rfl (ko iG.out aR) bE (fun K hK=>?_)
    refine Bg ?hg (N:=12) ?hd (cs:=#[.int .i64 0,.slice none 0 0]) (t:=40) ?hr ?_;(case hd=>rfl);(case hg=>rfl);(case hr=>(go_simp;done))
    intro cJ hg mO b9 hb
    have jF:=ah.mk (Kd.aM nD hb)
    have jG:=ah.mk (Kd.aM kM hb)
    have mA:=ah.mk (Kd.aM lW hb)
    have nG:=ah.mk (Kd.aM lX hb)
    have nU:=ah.mk (Kd.aM lY hb)
    have oV:=ah.mk (Kd.kL rD hb)
    have rI:=ah.mk (Kd.kL (by exact xw.out) hb)
    have wK:=ah.mk (aC (g:=bA) (o:= .cells #[.int .i64 gy,.bool gD,.slice fy eA.length fA,.string gW,.string ig,.bool iq,.slice (some ⟨lu,0,none⟩) fk.length fJ,.slice fS eG.length fT,.int .i64 (wrap64 (a2))] 34 (0,0)) gI hb)
    have yz:=ah.mk (aA aD hb)
    have CF:=ah.mk (b9)
    have yA:=ah.mk ((bZ:w.heap.size≤cJ))
    have BS:=ah.mk ((bZ:w.heap.size≤cJ))
    have IU:=ah.mk ((Ji:bA≠cJ))
    have TL:=ah.mk ((Jj:cJ≠bA))
    clear iU
    clear je
    clear iE
    clear fY
    clear iF
    clear mF
    clear xw
    clear aV
    clear HB
    have iU:=jF
    have je:=jG
    have iE:=mA
    have fY:=nG
    have iF:=nU
    have mF:=oV
    have xw:=rI
    have aV:=wK
    have HB:=yz
    have dz:=CF
    have CK:=yA
    have zM:=BS
    have cR:=IU
    have ia:=TL
    clear jF jG mA nG nU oV rI wK yz CF yA BS IU TL
    clear hb b9 hg
    refine hK.out _ _ ⟨(af aV.out 0).trans rfl,(af aV.out 1).trans rfl,(af aV.out 2).trans rfl,(af aV.out 3).trans rfl,(af aV.out 4).trans rfl,(af aV.out 5).trans rfl,(af aV.out 6).trans rfl,(af aV.out 7).trans rfl,(af aV.out 8).trans rfl⟩ (fun hHeld=>?_)
    clear hK K
    refine kI (a':=?_) ?_ ?_
    rotate_left
    ·show Act.put _ (some 12) _=_
     simp only [Act.put,List.setIfInBounds_toArray,List.set_cons_zero,List.set_cons_succ,fU,gj]
     rfl
    exact kI CV (TK (.slice yw zL.length jr,IQ,cJ) _ ⟨hHeld,nD,kM,lW,lX,lY,Jl,Jm,gI,jQ,CK.out,zM.out,cR.out,ia.out,aD⟩)
   ·skip
    refine Bg ?hg (N:=12) ?hd (cs:=#[.int .i64 0,.slice none 0 0]) (t:=40) ?hr ?_;(case hd=>rfl);(case hg=>rfl);(case hr=>(go_simp;done))
    intro cJ hg xp b9 hb
    have jF:=ah.mk (Kd.aM nD hb)
    have jG:=ah.mk (Kd.aM kM hb)
    have mA:=ah.mk (Kd.aM lW hb)
    have nG:=ah.mk (Kd.aM lX hb)
    have nU:=ah.mk (Kd.aM lY hb)
    have oV:=ah.mk (Kd.kL rD hb)
    have rI:=ah.mk (aC (g:=bA) (o:= .cells #[.int .i64 gy,.bool gD,.slice fy eA.length fA,.string gW,.string ig,.bool iq,.slice (some ⟨lu,0,none⟩) fk.length fJ,.slice fS eG.length fT,.int .i64 (wrap64 (a2))] 34 (0,0)) gI hb)
    have wK:=ah.mk (aA aD hb)
    have yz:=ah.mk (b9)
    have CF:=ah.mk ((bZ:w.heap.size≤cJ))
    have yA:=ah.mk ((bZ:w.heap.size≤cJ))
    have BS:=ah.mk ((Ji:bA≠cJ))
    have IU:=ah.mk ((Jj:cJ≠bA))
    clear iU
    clear je
    clear iE
    clear fY
    clear iF
    clear mF
    clear aV
    clear HB
    have iU:=jF
    have je:=jG
    have iE:=mA
    have fY:=nG
    have iF:=nU
    have mF:=oV
    have aV:=rI
    have HB:=wK
    have dz:=yz
    have CK:=CF
    have zM:=yA
    have cR:=BS
    have ia:=IU
    clear jF jG mA nG nU oV rI wK yz CF yA BS IU
    clear hb b9 hg
    obtain ⟨mq,mz,R5⟩:=Kd.ji mF.out
    ((injection R5 with f1_ f2_ f3_;have f4_ :=f1_.symm;have f5_ :=f3_.symm;clear f1_ f2_ f3_;subst f4_;subst f5_))
    refine hK.out _ _ ⟨(af aV.out 0).trans rfl,(af aV.out 1).trans rfl,(af aV.out 2).trans rfl,(af aV.out 3).trans rfl,(af aV.out 4).trans rfl,(af aV.out 5).trans rfl,(af aV.out 6).trans rfl,(af aV.out 7).trans rfl,(af aV.out 8).trans rfl⟩ (fun hHeld=>?_)
    clear hK K
    refine kI (a':=?_) ?_ ?_
    rotate_left
    ·show Act.put _ (some 12) _=_
     simp only [Act.put,List.setIfInBounds_toArray,List.set_cons_zero,List.set_cons_succ,fU,gj]
     rfl
    refine rW (i:=3) (N:=some 44) #[true,true,true,true,false,false,false,true,false,false] rfl rfl (ko iG.out aR) bE (fun K hK=>?_)
    refine pN Tryz.func15 aR rfl #[.agg #[.int .i64 Gg,.slice mq zL.length mz],.agg #[.int .u8 1,.int .i64 0,.int .i64 0,.int .i64 0,.int .i64 gy,.bool gD,.slice fy eA.length fA,.string gW,.string ig,.bool iq,.slice (some ⟨lu,0,none⟩) iA.length fJ,.slice fS eG.length fT,.int .i64 (wrap64 (a2))]] (by rfl) rfl rfl Jk ?_
    with_reducible refine (eO.calls k Gg _ _ zL 1 0 0 0 gy gD _ _ eA gW ig iq _ _ iA _ _ eG (wrap64 (a2)) uz rV IP _ ?aX ?bF ?dU ?jt ?ju ?jv ?pP ?sK ?BR Re.out).mono ?_
    (case aX=>repeat (exact (Kd.gv mF.out).2.2))
    (case bF=>exact (Kd.gv mF.out).2.1)
    (case dU=>repeat (exact (Kd.aZ iE.out).2.2))
    (case jt=>exact (Kd.aZ iE.out).2.1)
    (case ju=>repeat (exact (Kd.aZ fY.out).2.2))
    (case jv=>rw [show iA.length=fk.length from (Kd.aZ fY.out).1.symm];exact (Kd.aZ fY.out).2.1)
    (case pP=>repeat (exact (Kd.aZ iF.out).2.2))
    (case sK=>exact (Kd.aZ iF.out).2.1)
    (case BR=>exact bp.below HG.out aD)
    rintro e mO ⟨IQ,rfl,ho0,hb⟩
    refine ⟨_,rfl,?_⟩
    have jF:=ah.mk (Kd.aM nD hb)
    have jG:=ah.mk (Kd.aM kM hb)
    have mA:=ah.mk (Kd.aM lW hb)
    have nG:=ah.mk (Kd.aM lX hb)
    have nU:=ah.mk (Kd.aM lY hb)
    have oV:=ah.mk (Kd.xM rD (Kd.Da ho0) hb)
    have rI:=ah.mk (Kd.qm (Kd.zz (Kd.gi (Kd.gi (Kd.gi (Kd.gi (Kd.gi ho0 (Kd.iD kM)) (Kd.iD lW)) (Kd.iD lX)) (Kd.iD lY)) (Kd.O8 rD)) (g:=bA) (o:= .cells #[.int .i64 gy,.bool gD,.slice fy eA.length fA,.string gW,.string ig,.bool iq,.slice (some ⟨lu,0,none⟩) fk.length fJ,.slice fS eG.length fT,.int .i64 (wrap64 (a2))] 34 (0,0)) gI) (bL aD))
    have wK:=ah.mk (aC (g:=bA) (o:= .cells #[.int .i64 gy,.bool gD,.slice fy eA.length fA,.string gW,.string ig,.bool iq,.slice (some ⟨lu,0,none⟩) fk.length fJ,.slice fS eG.length fT,.int .i64 (wrap64 (a2))] 34 (0,0)) gI hb)
    have yz:=ah.mk (aC (g:=cJ) (o:= .cells #[.int .i64 0,.slice none 0 0] 40 (0,0)) jQ hb)
    have CF:=ah.mk (aA aD hb)
    clear iU
    clear je
    clear iE
    clear fY
    clear iF
    clear mF
    clear aV
    clear dz
    clear HB
    have iU:=jF
    have je:=jG
    have iE:=mA
    have fY:=nG
    have iF:=nU
    have mF:=oV
    have xw:=rI
    have aV:=wK
    have dz:=yz
    have HB:=CF
    clear jF jG mA nG nU oV rI wK yz CF
    refine hK.out _ _ ⟨(af aV.out 0).trans rfl,(af aV.out 1).trans rfl,(af aV.out 2).trans rfl,(af aV.out 3).trans rfl,(af aV.out 4).trans rfl,(af aV.out 5).trans rfl,(af aV.out 6).trans rfl,(af aV.out 7).trans rfl,(af aV.out 8).trans rfl⟩ (fun hHeld=>?_)
    clear hK K
    refine kI (a':=?_) ?_ ?_
    rotate_left
    ·show Act.put _ (some 44) _=_
     simp only [Act.put,List.setIfInBounds_toArray,List.set_cons_zero,List.set_cons_succ,fU,gj]
     rfl
    refine dS (i:=4) (N:=some 40) #[true,true,true,true,true,false,false,true,false,false] rfl rfl (cY iG.out aR) (fun _ _ _ h=>h) (Or.inl ⟨by rfl,ez⟩) rfl ?_
    refine dS (i:=5) (N:=some 45) #[true,true,true,true,true,true,false,true,false,false] rfl rfl (cY iG.out aR) (fun _ _ _ h=>h) (Or.inl ⟨by rfl,ez⟩) rfl ?_
    refine dS (i:=6) (N:=some 46) #[true,true,true,true,true,true,true,true,false,false] rfl rfl (cY iG.out aR) (fun _ _ _ h=>h) (Or.inl ⟨by rfl,ez⟩) rfl ?_
    exact kI CV (TK (.slice mq zL.length mz,IQ,cJ) _ ⟨hHeld,nD,kM,lW,lX,lY,Jl,Jm,gI,jQ,CK.out,zM.out,cR.out,ia.out,aD⟩)
  ·skip
   refine Bg ?hg (N:=12) ?hd (cs:=#[.int .i64 0,.slice none 0 0]) (t:=40) ?hr ?_;(case hd=>rfl);(case hg=>rfl);(case hr=>(go_simp;done))
   intro cJ hg w29 b9 hb
   have jF:=ah.mk (Kd.aM nD hb)
   have jG:=ah.mk (Kd.aM kM hb)
   have mA:=ah.mk (Kd.aM lW hb)
   have nG:=ah.mk (Kd.aM lX hb)
   have nU:=ah.mk (Kd.aM lY hb)
   have oV:=ah.mk (aC (g:=bA) (o:= .cells #[.int .i64 gy,.bool gD,.slice fy eA.length fA,.string gW,.string ig,.bool iq,.slice (some ⟨lu,0,none⟩) fk.length fJ,.slice fS eG.length fT,.int .i64 (wrap64 (a2))] 34 (0,0)) gI hb)
   have rI:=ah.mk (aA aD hb)
   have wK:=ah.mk (b9)
   have yz:=ah.mk ((bZ:w.heap.size≤cJ))
   have CF:=ah.mk ((bZ:w.heap.size≤cJ))
   have yA:=ah.mk ((Ji:bA≠cJ))
   have BS:=ah.mk ((Jj:cJ≠bA))
   clear iU
   clear je
   clear iE
   clear fY
   clear iF
   clear aV
   clear HB
   have iU:=jF
   have je:=jG
   have iE:=mA
   have fY:=nG
   have iF:=nU
   have aV:=oV
   have HB:=rI
   have dz:=wK
   have CK:=yz
   have zM:=CF
   have cR:=yA
   have ia:=BS
   clear jF jG mA nG nU oV rI wK yz CF yA BS
   clear hb b9 hg
   refine hK.out _ _ ⟨(af aV.out 0).trans rfl,(af aV.out 1).trans rfl,(af aV.out 2).trans rfl,(af aV.out 3).trans rfl,(af aV.out 4).trans rfl,(af aV.out 5).trans rfl,(af aV.out 6).trans rfl,(af aV.out 7).trans rfl,(af aV.out 8).trans rfl⟩ (fun hHeld=>?_)
   clear hK K
   refine kI (a':=?_) ?_ ?_
   rotate_left
   ·show Act.put _ (some 12) _=_
    simp only [Act.put,List.setIfInBounds_toArray,List.set_cons_zero,List.set_cons_succ,fU,gj]
    rfl
   refine rW (i:=0) (N:=some 41) #[true,true,true,false,false,false,false,true,false,false] rfl rfl (ko iG.out aR) bE (fun K hK=>?_)
   refine pN Tryz.func16 aR rfl #[] (by rfl) rfl rfl KZ ?_
   with_reducible refine (ku.calls Gg zL _ A9.out).mono ?_
   rintro e xp ⟨aaE,rfl,ho0,hb⟩
   refine ⟨_,rfl,?_⟩
   have jF:=ah.mk (Kd.aM nD hb)
   have jG:=ah.mk (Kd.aM kM hb)
   have mA:=ah.mk (Kd.aM lW hb)
   have nG:=ah.mk (Kd.aM lX hb)
   have nU:=ah.mk (Kd.aM lY hb)
   have oV:=ah.mk (Kd.qm (Kd.zz (Kd.gi (Kd.gi (Kd.gi (Kd.gi ho0 (Kd.iD kM)) (Kd.iD lW)) (Kd.iD lX)) (Kd.iD lY)) (g:=bA) (o:= .cells #[.int .i64 gy,.bool gD,.slice fy eA.length fA,.string gW,.string ig,.bool iq,.slice (some ⟨lu,0,none⟩) fk.length fJ,.slice fS eG.length fT,.int .i64 (wrap64 (a2))] 34 (0,0)) gI) (bL aD))
   have rI:=ah.mk (aC (g:=bA) (o:= .cells #[.int .i64 gy,.bool gD,.slice fy eA.length fA,.string gW,.string ig,.bool iq,.slice (some ⟨lu,0,none⟩) fk.length fJ,.slice fS eG.length fT,.int .i64 (wrap64 (a2))] 34 (0,0)) gI hb)
   have wK:=ah.mk (aC (g:=cJ) (o:= .cells #[.int .i64 0,.slice none 0 0] 40 (0,0)) jQ hb)
   have yz:=ah.mk (aA aD hb)
   clear iU
   clear je
   clear iE
   clear fY
   clear iF
   clear aV
   clear dz
   clear HB
   have iU:=jF
   have je:=jG
   have iE:=mA
   have fY:=nG
   have iF:=nU
   have mF:=oV
   have aV:=rI
   have dz:=wK
   have HB:=yz
   clear jF jG mA nG nU oV rI wK yz
   obtain ⟨mq,mz,R5⟩:=Kd.ji mF.out
   (subst R5)
   refine hK.out _ _ ⟨(af aV.out 0).trans rfl,(af aV.out 1).trans rfl,(af aV.out 2).trans rfl,(af aV.out 3).trans rfl,(af aV.out 4).trans rfl,(af aV.out 5).trans rfl,(af aV.out 6).trans rfl,(af aV.out 7).trans rfl,(af aV.out 8).trans rfl⟩ (fun hHeld=>?_)
   clear hK K
   refine kI (a':=?_) ?_ ?_
   rotate_left
   ·show Act.put _ (some 41) _=_
    simp only [Act.put,List.setIfInBounds_toArray,List.set_cons_zero,List.set_cons_succ,fU,gj]
    rfl
   refine rW (i:=3) (N:=some 44) #[true,true,true,true,false,false,false,true,false,false] rfl rfl (ko iG.out aR) bE (fun K hK=>?_)
   refine pN Tryz.func15 aR rfl #[.agg #[.int .i64 Gg,.slice mq zL.length mz],.agg #[.int .u8 1,.int .i64 0,.int .i64 0,.int .i64 0,.int .i64 gy,.bool gD,.slice fy eA.length fA,.string gW,.string ig,.bool iq,.slice (some ⟨lu,0,none⟩) iA.length fJ,.slice fS eG.length fT,.int .i64 (wrap64 (a2))]] (by rfl) rfl rfl Jk ?_
   with_reducible refine (eO.calls k Gg _ _ zL 1 0 0 0 gy gD _ _ eA gW ig iq _ _ iA _ _ eG (wrap64 (a2)) uz rV IP _ ?aX ?bF ?dU ?jt ?ju ?jv ?pP ?sK ?BR Re.out).mono ?_
   (case aX=>repeat (exact (Kd.gv mF.out).2.2))
   (case bF=>exact (Kd.gv mF.out).2.1)
   (case dU=>repeat (exact (Kd.aZ iE.out).2.2))
   (case jt=>exact (Kd.aZ iE.out).2.1)
   (case ju=>repeat (exact (Kd.aZ fY.out).2.2))
   (case jv=>rw [show iA.length=fk.length from (Kd.aZ fY.out).1.symm];exact (Kd.aZ fY.out).2.1)
   (case pP=>repeat (exact (Kd.aZ iF.out).2.2))
   (case sK=>exact (Kd.aZ iF.out).2.1)
   (case BR=>exact bp.below HG.out aD)
   rintro e mO ⟨IQ,rfl,ho0,hb⟩
   refine ⟨_,rfl,?_⟩
   have jF:=ah.mk (Kd.aM nD hb)
   have jG:=ah.mk (Kd.aM kM hb)
   have mA:=ah.mk (Kd.aM lW hb)
   have nG:=ah.mk (Kd.aM lX hb)
   have nU:=ah.mk (Kd.aM lY hb)
   have oV:=ah.mk (Kd.xM rD (Kd.Da ho0) hb)
   have rI:=ah.mk (Kd.qm (Kd.zz (Kd.gi (Kd.gi (Kd.gi (Kd.gi (Kd.gi ho0 (Kd.iD kM)) (Kd.iD lW)) (Kd.iD lX)) (Kd.iD lY)) (Kd.O8 rD)) (g:=bA) (o:= .cells #[.int .i64 gy,.bool gD,.slice fy eA.length fA,.string gW,.string ig,.bool iq,.slice (some ⟨lu,0,none⟩) fk.length fJ,.slice fS eG.length fT,.int .i64 (wrap64 (a2))] 34 (0,0)) gI) (bL aD))
   have wK:=ah.mk (aC (g:=bA) (o:= .cells #[.int .i64 gy,.bool gD,.slice fy eA.length fA,.string gW,.string ig,.bool iq,.slice (some ⟨lu,0,none⟩) fk.length fJ,.slice fS eG.length fT,.int .i64 (wrap64 (a2))] 34 (0,0)) gI hb)
   have yz:=ah.mk (aC (g:=cJ) (o:= .cells #[.int .i64 0,.slice none 0 0] 40 (0,0)) jQ hb)
   have CF:=ah.mk (aA aD hb)
   clear iU
   clear je
   clear iE
   clear fY
   clear iF
   clear mF
   clear aV
   clear dz
   clear HB
   have iU:=jF
   have je:=jG
   have iE:=mA
   have fY:=nG
   have iF:=nU
   have mF:=oV
   have xw:=rI
   have aV:=wK
   have dz:=yz
   have HB:=CF
   clear jF jG mA nG nU oV rI wK yz CF
   refine hK.out _ _ ⟨(af aV.out 0).trans rfl,(af aV.out 1).trans rfl,(af aV.out 2).trans rfl,(af aV.out 3).trans rfl,(af aV.out 4).trans rfl,(af aV.out 5).trans rfl,(af aV.out 6).trans rfl,(af aV.out 7).trans rfl,(af aV.out 8).trans rfl⟩ (fun hHeld=>?_)
   clear hK K
   refine kI (a':=?_) ?_ ?_
   rotate_left
   ·show Act.put _ (some 44) _=_
    simp only [Act.put,List.setIfInBounds_toArray,List.set_cons_zero,List.set_cons_succ,fU,gj]
    rfl
   refine dS (i:=4) (N:=some 40) #[true,true,true,true,true,false,false,true,false,false] rfl rfl (cY iG.out aR) (fun _ _ _ h=>h) (Or.inl ⟨by rfl,ez⟩) rfl ?_
   refine dS (i:=5) (N:=some 45) #[true,true,true,true,true,true,false,true,false,false] rfl rfl (cY iG.out aR) (fun _ _ _ h=>h) (Or.inl ⟨by rfl,ez⟩) rfl ?_
   refine dS (i:=6) (N:=some 46) #[true,true,true,true,true,true,true,true,false,false] rfl rfl (cY iG.out aR) (fun _ _ _ h=>h) (Or.inl ⟨by rfl,ez⟩) rfl ?_
   exact kI CV (TK (.slice mq zL.length mz,IQ,cJ) _ ⟨hHeld,nD,kM,lW,lX,lY,Jl,Jm,gI,jQ,CK.out,zM.out,cR.out,ia.out,aD⟩)
 rintro ⟨aaE,IQ,cJ⟩ Cv ⟨hS_,h0_,h1_,ZA,h3_,h4_,h5_,h6_,h7_,h8_,h9_,amw,amx,amy,amz⟩
 have jF:ah (Kd.R (Kd.int .i64) 3 Cv w.heap.size (fun _ =>True) aaD iZ):=⟨h0_⟩
 have jG:ah (Kd.R Kd.string 9 Cv w.heap.size (fun k_ =>some k_≠(.slice fy eA.length fA:Value).ownBlock) (.slice qK um.length qL) um):=⟨h1_⟩
 have mA:ah (Kd.R Kd.string 9 Cv w.heap.size (fun k_ =>some k_≠(.slice qK um.length qL:Value).ownBlock) (.slice fy eA.length fA) eA):=⟨ZA⟩
 have nG:ah (Kd.R mV 37 Cv w.heap.size (fun _ =>True) (.slice (some ⟨lu,0,none⟩) fk.length fJ) iA):=⟨h3_⟩
 have nU:ah (Kd.R (Kd.int .u8) 5 Cv w.heap.size (fun _ =>True) (.slice fS eG.length fT) eG):=⟨h4_⟩
 have oV:ah (Kd.S Cb 34 Cv w.heap.size (fun k_ =>some k_≠(.slice qK um.length qL:Value).ownBlock∧some k_≠(.slice fy eA.length fA:Value).ownBlock∧some k_≠(.slice (some ⟨lu,0,none⟩) fk.length fJ:Value).ownBlock∧some k_≠(.slice fS eG.length fT:Value).ownBlock∧some k_≠(IQ:Value).ownBlock∧k_≠bA) aaE zL):=⟨h5_⟩
 have rI:ah (Kd.S Cb 34 Cv w.heap.size (fun k_ =>some k_≠(.slice qK um.length qL:Value).ownBlock∧some k_≠(.slice fy eA.length fA:Value).ownBlock∧some k_≠(.slice (some ⟨lu,0,none⟩) fk.length fJ:Value).ownBlock∧some k_≠(.slice fS eG.length fT:Value).ownBlock∧some k_≠(aaE:Value).ownBlock∧k_≠bA) IQ rV):=⟨h6_⟩
 have wK:ah (Cv.heap[bA]? =some (.cells #[.int .i64 gy,.bool gD,.slice fy eA.length fA,.string gW,.string ig,.bool iq,.slice (some ⟨lu,0,none⟩) fk.length fJ,.slice fS eG.length fT,.int .i64 (wrap64 (a2))] 34 (0,0))):=⟨h7_⟩
 have yz:ah (Cv.heap[cJ]? =some (.cells #[.int .i64 0,.slice none 0 0] 40 (0,0))):=⟨h8_⟩
 have CF:ah (w.heap.size≤cJ):=⟨h9_⟩
 have yA:ah (w.heap.size≤cJ):=⟨amw⟩
 have BS:ah (bA≠cJ):=⟨amx⟩
 have IU:ah (cJ≠bA):=⟨amy⟩
 have TL:ah (Below w.heap.size w Cv):=⟨amz⟩
 clear iU
 clear je
 clear iE
 clear fY
 clear iF
 clear aV
 clear HB
 clear h0_ h1_ ZA h3_ h4_ h5_ h6_ h7_ h8_ h9_ amw amx amy amz
 have iU:=jF
 have je:=jG
 have iE:=mA
 have fY:=nG
 have iF:=nU
 have mF:=oV
 have xw:=rI
 have aV:=wK
 have dz:=yz
 have CK:=CF
 have zM:=yA
 have cR:=BS
 have ia:=IU
 have HB:=TL
 clear jF jG mA nG nU oV rI wK yz CF yA BS IU TL
 have hHeld:Cv.cell? ⟨bA,0,none⟩=some (.int .i64 gy)∧Cv.cell? ⟨bA,1,none⟩=some (.bool gD)∧Cv.cell? ⟨bA,2,none⟩=some (.slice fy eA.length fA)∧Cv.cell? ⟨bA,3,none⟩=some (.string gW)∧Cv.cell? ⟨bA,4,none⟩=some (.string ig)∧Cv.cell? ⟨bA,5,none⟩=some (.bool iq)∧Cv.cell? ⟨bA,6,none⟩=some (.slice (some ⟨lu,0,none⟩) fk.length fJ)∧Cv.cell? ⟨bA,7,none⟩=some (.slice fS eG.length fT)∧Cv.cell? ⟨bA,8,none⟩=some (.int .i64 (wrap64 (a2))):=hS_
 obtain ⟨xq,xu,adX⟩:=Kd.ji xw.out
 (subst adX)
 refine kI (a':=?_) ?_ ?_
 rotate_left
 ·simp only [Bb,Act.put,List.setIfInBounds_toArray,List.set_cons_zero,List.set_cons_succ]
  rfl
 refine rW (i:=8) (N:=none) #[true,true,true,true,true,true,true,true,true,false] rfl rfl (ko iG.out aR) bE (fun K hK=>?_)
 have aKF:Cv.cell? ⟨cJ,0,none⟩=some (.int .i64 0):=(af dz.out 0).trans rfl
 have aHA:=aa dz.out 0
 have aAm:=cR.out
 have aAn:=ia.out
 have aKG:Cv.cell? ⟨cJ,1,none⟩=some (.slice none 0 0):=(af dz.out 1).trans rfl
 have aHB:=aa dz.out 1
 have aAo:=cR.out
 have aAp:=ia.out
 refine Cy (w1:=?_) (by rfl) rfl ?_ ?_
 rotate_left
 ·go_simp
  rfl
 refine hK.out _ _ ⟨((cell_far (p:=⟨cJ,_,none⟩) cR.out _).trans (((cell_far (p:=⟨cJ,_,none⟩) cR.out _).trans (hHeld.1)))),((cell_far (p:=⟨cJ,_,none⟩) cR.out _).trans (((cell_far (p:=⟨cJ,_,none⟩) cR.out _).trans (hHeld.2.1)))),((cell_far (p:=⟨cJ,_,none⟩) cR.out _).trans (((cell_far (p:=⟨cJ,_,none⟩) cR.out _).trans (hHeld.2.2.1)))),((cell_far (p:=⟨cJ,_,none⟩) cR.out _).trans (((cell_far (p:=⟨cJ,_,none⟩) cR.out _).trans (hHeld.2.2.2.1)))),((cell_far (p:=⟨cJ,_,none⟩) cR.out _).trans (((cell_far (p:=⟨cJ,_,none⟩) cR.out _).trans (hHeld.2.2.2.2.1)))),((cell_far (p:=⟨cJ,_,none⟩) cR.out _).trans (((cell_far (p:=⟨cJ,_,none⟩) cR.out _).trans (hHeld.2.2.2.2.2.1)))),((cell_far (p:=⟨cJ,_,none⟩) cR.out _).trans (((cell_far (p:=⟨cJ,_,none⟩) cR.out _).trans (hHeld.2.2.2.2.2.2.1)))),((cell_far (p:=⟨cJ,_,none⟩) cR.out _).trans (((cell_far (p:=⟨cJ,_,none⟩) cR.out _).trans (hHeld.2.2.2.2.2.2.2.1)))),((cell_far (p:=⟨cJ,_,none⟩) cR.out _).trans (((cell_far (p:=⟨cJ,_,none⟩) cR.out _).trans (hHeld.2.2.2.2.2.2.2.2))))⟩ (fun hHeld=>?_)
 clear hK K
 refine dS (i:=9) (N:=some 13) #[true,true,true,true,true,true,true,true,true,true] rfl rfl (cY iG.out aR) (fun _ _ _ h=>h) (Or.inl ⟨by rfl,ez⟩) rfl ?_
 refine zO (tE iG.out aR) ?_
 obtain ⟨yx,wz,adO⟩:=Kd.cM iU.out
 subst adO
 try go_wp2_with (((with_reducible refine bq (f:=17) rfl ?_);refine cK (some 49) rfl rfl Tryz.func17 aR rfl #[.slice yx iZ.length wz,.int .i64 (wrap64 (1 + (wrap64 (Int.tmod a1 1000))))] rfl dc ?_;(with_reducible refine (cA.calls k _ _ iZ (wrap64 (1 + (wrap64 (Int.tmod a1 1000)))) vv _ ?aX ?bF A11.out).mono ?_);(case aX=>refine (Kd.aZ (e:=3) (base:=w.heap.size) (ok:=fun k_ =>True) (n:=iZ.length) (c:=wz) ?_).2.2;exact (by exact (Kd.cu (Kd.au (p:=⟨cJ,1,none⟩) (Kd.au (p:=⟨cJ,0,none⟩) (Kd.cj iU.out dz.out bE) (fun _ hk=>hk.2) (.int .i64 uz)) (fun _ hk=>hk.2) (.slice xq rV.length xu)) (fun _ h_ =>h_.1))));(case bF=>exact (Kd.aZ iU.out).2.1);rintro e w' ⟨rfl,⟨nd,rfl⟩⟩;refine ⟨_,rfl,?_⟩))
 go_loopg [15,52] k (fun kq v15 v52 w'=>∃ (sS:Int) (vw:Int),v15= .int .i64 sS∧v52= .int .i64 vw∧ah (aq.l0 kq l3 iZ (wrap64 (1 + (wrap64 (Int.tmod a1 1000)))) IP vv sS 0 iZ (iZ.length:Int) vw gy gD eA gW ig iq iA eG (wrap64 (a2)) uz rV=some r)∧ah (kq≤k)∧ah (Kd.R (Kd.int .i64) 3 w' w.heap.size (fun _ =>True) (.slice yx iZ.length wz) iZ)∧ah (Kd.R (Kd.int .i64) 3 w' w.heap.size (fun _ =>True) (.slice yx iZ.length wz) iZ)∧ah (Kd.R Kd.string 9 w' w.heap.size (fun _ =>True) (.slice fy eA.length fA) eA)∧ah (Kd.R mV 37 w' w.heap.size (fun _ =>True) (.slice (some ⟨lu,0,none⟩) fk.length fJ) iA)∧ah (Kd.R (Kd.int .u8) 5 w' w.heap.size (fun _ =>True) (.slice fS eG.length fT) eG)∧ah (Kd.S Cb 34 w' w.heap.size (fun k_ =>some k_≠((.slice fy eA.length fA):Value).ownBlock∧some k_≠((.slice (some ⟨lu,0,none⟩) fk.length fJ):Value).ownBlock∧some k_≠((.slice fS eG.length fT):Value).ownBlock∧k_≠bA) (.slice xq rV.length xu) rV)∧ah (w'.heap[bA]? =some (.cells #[.int .i64 gy,.bool gD,(.slice fy eA.length fA),.string gW,.string ig,.bool iq,(.slice (some ⟨lu,0,none⟩) fk.length fJ),(.slice fS eG.length fT),.int .i64 (wrap64 (a2))] 34 (0,0)))∧ah (w'.heap[cJ]? =some (.cells #[.int .i64 uz,(.slice xq rV.length xu)] 40 (0,0)))∧ah (Below w.heap.size w w'))
 case atStart=>exact ⟨(0),(0),(by rfl),(by rfl),H',⟨Nat.le_refl _⟩,⟨Qg⟩,⟨Qg⟩,⟨by (with_reducible repeat (apply Kd.j6));exact Kd.cu (Kd.au (p:=⟨cJ,1,none⟩) (Kd.au (p:=⟨cJ,0,none⟩) (Kd.cj iE.out dz.out bE) (fun _ hk=>hk.2) (.int .i64 uz)) (fun _ hk=>hk.2) (.slice xq rV.length xu)) (fun _ hk=>trivial)⟩,⟨by (with_reducible repeat (apply Kd.j6));exact Kd.cu (Kd.au (p:=⟨cJ,1,none⟩) (Kd.au (p:=⟨cJ,0,none⟩) (Kd.cj fY.out dz.out bE) (fun _ hk=>hk.2) (.int .i64 uz)) (fun _ hk=>hk.2) (.slice xq rV.length xu)) (fun _ hk=>trivial)⟩,⟨by (with_reducible repeat (apply Kd.j6));exact Kd.cu (Kd.au (p:=⟨cJ,1,none⟩) (Kd.au (p:=⟨cJ,0,none⟩) (Kd.cj iF.out dz.out bE) (fun _ hk=>hk.2) (.int .i64 uz)) (fun _ hk=>hk.2) (.slice xq rV.length xu)) (fun _ hk=>trivial)⟩,⟨by (with_reducible repeat (apply Kd.Ul));exact Kd.kB (Kd.kg (p:=⟨cJ,1,none⟩) (Kd.kg (p:=⟨cJ,0,none⟩) (Kd.vB xw.out dz.out bE) (fun _ hk=>hk.2) (.int .i64 uz)) (fun _ hk=>hk.2) (.slice xq rV.length xu)) (fun _ hk=>⟨hk.1.2.1,⟨hk.1.2.2.1,⟨hk.1.2.2.2.1,hk.1.2.2.2.2.2⟩⟩⟩)⟩,⟨by (with_reducible repeat (refine nK ?_ _));refine aN ?_ cR.out _;refine aN ?_ cR.out _;exact aV.out⟩,⟨by (with_reducible repeat (refine nK ?_ _));refine aH (cs:=#[.int .i64 uz,.slice none 0 0]) ?_ 1 _ rfl;refine aH (cs:=#[.int .i64 0,.slice none 0 0]) ?_ 0 _ rfl;exact dz.out⟩,⟨by repeat ((with_reducible first|exact HB.out|apply eF|refine dN ?_ zM.out))⟩⟩
 case round=>
  clear H'
  obtain ⟨sS,vw,rfl,rfl,HA,sw,tu,acH,gX,fX,gY,cX,aV,dz,HB⟩:=hrel
  have mK:=(Kd.aZ fX.out).1
  rw [mK] at fX
  (try simp only [mK])
  (try simp only [mK] at aV)
  (try simp only [mK] at cX)
  cases gk with
  |zero=>exact absurd HA.out (by simp [aq.l0])
  |succ k1=>
   have H:=HA.out
   clear HA
   simp only [aq.l0] at H
   by_cases c38:vw < (iZ.length:Int)
   ·rw [if_pos c38] at H
    have amA:=decide_eq_true c38
    clear c38
    obtain ⟨c39,H⟩:=ld H
    have aHD:=decide_eq_true c39
    clear c39
    obtain ⟨c40,H⟩:=ld H
    have aHE:=decide_eq_true c40
    clear c40
    obtain ⟨amB,acI⟩:∃ j_:Int,(mx sS (rd iZ vw))=j_ :=⟨_,rfl⟩
    (rw [acI] at H)
    have aDi:(if sS < (rd iZ vw) then (rd iZ vw) else sS)=amB:=acI
    have H':=ah.mk H
    clear H
    have aeS: 0≤(vw:Int):=of_decide_eq_true cP
    have aeT:vw < (iZ.length:Int):=of_decide_eq_true cP
    obtain ⟨aHF,aDj,aAq⟩:=Kd.p4 (Kd.aZ acH.out).2.2 vw aeS aeT
    cases aDj
    replace aeS:=eq_true aeS
    replace aeT:=eq_true aeT
    go_wp2
    (try simp only [← mK])
    go_roundg k1
    case measure=>have:=sw.out;omega
    case rel=>exact ⟨(amB),(wrap64 (vw + 1)),(by rfl),(by rfl),H',⟨lA⟩,⟨lB⟩,⟨by exact acH.out⟩,⟨nA⟩,⟨by (try simp only [mK]);exact fX.out⟩,⟨nB⟩,⟨by (try simp only [mK]);exact cX.out⟩,⟨by (try simp only [mK]);exact aV.out⟩,⟨jQ⟩,⟨aD⟩⟩
   ·rw [if_neg c38] at H
    have amA:=decide_eq_false c38
    clear c38
    have aeU:=ah.mk H
    clear H
    go_upto_region 12 with (fail)
    go_cut [65] (fun v65 wc=>∃ (kq:Nat) (Gh:Bool),v65= .bool Gh∧ah (aq.j1 kq l3 iZ (wrap64 (1 + (wrap64 (Int.tmod a1 1000)))) vv sS 0 Gh gy gD eA gW ig iq iA eG (wrap64 (a2)) uz rV=some r)∧ah (kq≤k1)∧ah (Kd.R (Kd.int .i64) 3 wc w.heap.size (fun _ =>True) (.slice yx iZ.length wz) iZ)∧ah (Kd.R Kd.string 9 wc w.heap.size (fun _ =>True) (.slice fy eA.length fA) eA)∧ah (Kd.R mV 37 wc w.heap.size (fun _ =>True) (.slice (some ⟨lu,0,none⟩) iA.length fJ) iA)∧ah (Kd.R (Kd.int .u8) 5 wc w.heap.size (fun _ =>True) (.slice fS eG.length fT) eG)∧ah (Kd.S Cb 34 wc w.heap.size (fun k_ =>some k_≠((.slice fy eA.length fA):Value).ownBlock∧some k_≠((.slice (some ⟨lu,0,none⟩) iA.length fJ):Value).ownBlock∧some k_≠((.slice fS eG.length fT):Value).ownBlock∧k_≠bA) (.slice xq rV.length xu) rV)∧ah (wc.heap[bA]? =some (.cells #[.int .i64 gy,.bool gD,(.slice fy eA.length fA),.string gW,.string ig,.bool iq,(.slice (some ⟨lu,0,none⟩) iA.length fJ),(.slice fS eG.length fT),.int .i64 (wrap64 (a2))] 34 (0,0)))∧ah (wc.heap[cJ]? =some (.cells #[.int .i64 uz,(.slice xq rV.length xu)] 40 (0,0)))∧ah (Below w.heap.size w wc))
    case first=>
     have H:=aeU.out
     clear aeU
     by_cases Pj:IP=0
     ·rw [if_pos Pj] at H
      have abx:=beq_iff_eq.mpr Pj
      have aby:=bne_eq_false_iff_eq.mpr Pj
      clear Pj
      have H':=ah.mk H
      clear H
      go_wp2
      go_meet
      case rel=>exact ⟨_,(decide (vv < 2)),(by rfl),H',⟨lA⟩,⟨lB⟩,⟨nA⟩,⟨om⟩,⟨nB⟩,⟨o7⟩,⟨gI⟩,⟨jQ⟩,⟨aD⟩⟩
     ·rw [if_neg Pj] at H
      exact (aq.amr H).elim
    case rest=>
     clear aeU
     obtain ⟨kq,Gh,rfl,HA,O3,tu,gX,fX,gY,cX,aV,dz,HB⟩:=hcut
     cases kq with
     |zero=>exact absurd HA.out (by simp [aq.j1])
     |succ amC=>
      have H:=HA.out
      clear HA
      simp only [aq.j1] at H
      by_cases Rz:Gh=true
      ·subst Rz
       rw [if_pos rfl] at H
       exact absurd H cO
      ·replace Rz:=Bool.eq_false_iff.mpr Rz
       subst Rz
       rw [if_neg (show ¬ (false=true) by decide)] at H
       have H':=ah.mk H
       clear H
       have aHG:=cR.out
       have aHH:=ia.out
       have EZ:wc.cell? ⟨bA,0,none⟩=some (.int .i64 gy):=(af aV.out 0).trans rfl
       have E0:wc.cell? ⟨bA,1,none⟩=some (.bool gD):=(af aV.out 1).trans rfl
       have E1:wc.cell? ⟨bA,2,none⟩=some (.slice fy eA.length fA):=(af aV.out 2).trans rfl
       have E2:wc.cell? ⟨bA,3,none⟩=some (.string gW):=(af aV.out 3).trans rfl
       have E3:wc.cell? ⟨bA,4,none⟩=some (.string ig):=(af aV.out 4).trans rfl
       have E4:wc.cell? ⟨bA,5,none⟩=some (.bool iq):=(af aV.out 5).trans rfl
       have E5:wc.cell? ⟨bA,6,none⟩=some (.slice (some ⟨lu,0,none⟩) iA.length fJ):=(af aV.out 6).trans rfl
       have E6:wc.cell? ⟨bA,7,none⟩=some (.slice fS eG.length fT):=(af aV.out 7).trans rfl
       have E7:wc.cell? ⟨bA,8,none⟩=some (.int .i64 (wrap64 (a2))):=(af aV.out 8).trans rfl
       have E8:=aa aV.out 0
       have E9:=aa aV.out 1
       have Fa:=aa aV.out 2
       have Fb:=aa aV.out 3
       have Fe:=aa aV.out 4
       have Ff:=aa aV.out 5
       have Fg:=aa aV.out 6
       have Fh:=aa aV.out 7
       have Fi:=aa aV.out 8
       go_wp2
       go_loopg [16,19,69] amC (fun kq v16 v19 v69 w'=>∃ (Ox:Int) (IV:Int) (uv:Int) (iW:Int) (bz:List (qV)) (qu:Value),v16= .int .i64 Ox∧v19= .int .i64 IV∧v69= .int .i64 uv∧ah (aq.l1 kq l3 iZ (wrap64 (1 + (wrap64 (Int.tmod a1 1000)))) sS Ox IV vv uv gy gD eA gW ig iq iA eG (wrap64 (a2)) iW bz=some r)∧ah (kq≤amC)∧ah (Kd.R (Kd.int .i64) 3 w' w.heap.size (fun _ =>True) (.slice yx iZ.length wz) iZ)∧ah (Kd.R Kd.string 9 w' w.heap.size (fun _ =>True) (.slice fy eA.length fA) eA)∧ah (Kd.R mV 37 w' w.heap.size (fun _ =>True) (.slice (some ⟨lu,0,none⟩) iA.length fJ) iA)∧ah (Kd.R (Kd.int .u8) 5 w' w.heap.size (fun _ =>True) (.slice fS eG.length fT) eG)∧ah (Kd.S Cb 34 w' w.heap.size (fun k_ =>some k_≠((.slice fy eA.length fA):Value).ownBlock∧some k_≠((.slice (some ⟨lu,0,none⟩) iA.length fJ):Value).ownBlock∧some k_≠((.slice fS eG.length fT):Value).ownBlock∧k_≠bA) qu bz)∧ah (w'.heap[bA]? =some (.cells #[.int .i64 gy,.bool gD,(.slice fy eA.length fA),.string gW,.string ig,.bool iq,(.slice (some ⟨lu,0,none⟩) iA.length fJ),(.slice fS eG.length fT),.int .i64 (wrap64 (a2))] 34 (0,0)))∧ah (w'.heap[cJ]? =some (.cells #[.int .i64 iW,qu] 40 (0,0)))∧ah (Below w.heap.size w w'))
       case atStart=>exact ⟨(0),((wrap64 (a2))),(0),(uz),(rV),(.slice xq rV.length xu),(by rfl),(by rfl),(by rfl),H',⟨Nat.le_refl _⟩,⟨lB⟩,⟨nA⟩,⟨om⟩,⟨nB⟩,⟨o7⟩,⟨gI⟩,⟨jQ⟩,⟨aD⟩⟩
       case round=>
        clear H'
        obtain ⟨Ox,IV,uv,iW,bz,qu,rfl,rfl,rfl,HA,HK3,tu,gX,fX,gY,cX,aV,dz,HB⟩:=hrel
        cases gk with
        |zero=>exact absurd HA.out (by simp [aq.l1])
        |succ k3=>
         have H:=HA.out
         clear HA
         simp only [aq.l1] at H
         by_cases Ic:uv < vv
         ·rw [if_pos Ic] at H
          have MN:=decide_eq_true Ic
          clear Ic
          have aeV:=ah.mk H
          clear H
          go_upto_if 74 with (fail)
          go_cut [16] (fun v16 wc=>∃ (kq:Nat) (kG:Int),v16= .int .i64 kG∧ah (aq.j3 kq l3 iZ (wrap64 (1 + (wrap64 (Int.tmod a1 1000)))) sS kG IV vv uv gy gD eA gW ig iq iA eG (wrap64 (a2)) iW bz=some r)∧ah (kq≤k3)∧ah (Kd.R (Kd.int .i64) 3 wc w.heap.size (fun _ =>True) (.slice yx iZ.length wz) iZ)∧ah (Kd.R Kd.string 9 wc w.heap.size (fun _ =>True) (.slice fy eA.length fA) eA)∧ah (Kd.R mV 37 wc w.heap.size (fun _ =>True) (.slice (some ⟨lu,0,none⟩) iA.length fJ) iA)∧ah (Kd.R (Kd.int .u8) 5 wc w.heap.size (fun _ =>True) (.slice fS eG.length fT) eG)∧ah (Kd.S Cb 34 wc w.heap.size (fun k_ =>some k_≠((.slice fy eA.length fA):Value).ownBlock∧some k_≠((.slice (some ⟨lu,0,none⟩) iA.length fJ):Value).ownBlock∧some k_≠((.slice fS eG.length fT):Value).ownBlock∧k_≠bA) qu bz)∧ah (wc.heap[bA]? =some (.cells #[.int .i64 gy,.bool gD,(.slice fy eA.length fA),.string gW,.string ig,.bool iq,(.slice (some ⟨lu,0,none⟩) iA.length fJ),(.slice fS eG.length fT),.int .i64 (wrap64 (a2))] 34 (0,0)))∧ah (wc.heap[cJ]? =some (.cells #[.int .i64 iW,qu] 40 (0,0)))∧ah (Below w.heap.size w wc))
          case first=>
           have H:=aeV.out
           clear aeV
           by_cases c49:(l3.length:Int) > 0
           ·rw [if_pos c49] at H
            have amD:decide (0 < (l3.length:Int))=true:=decide_eq_true c49
            have acJ:decide (0 < l3.length)=true:=decide_eq_true ay
            clear c49
            obtain ⟨c50,H⟩:=agC H
            have aHI:=beq_eq_false_iff_ne.mpr c50
            have aHJ:=bne_iff_ne.mpr c50
            have aHK: ¬ (l3= []):=fun h_ =>c50 (by rw [h_];rfl)
            obtain ⟨c52,H⟩:=ld H
            have aHM:=decide_eq_true c52
            clear c52
            obtain ⟨c53,H⟩:=ld H
            have aHN:=decide_eq_true c53
            clear c53
            have H':=ah.mk H
            clear H
            have aeW: 0≤(Int.tmod uv (l3.length:Int)):=of_decide_eq_true cP
            have aeX:(Int.tmod uv (l3.length:Int)) < (l3.length:Int):=of_decide_eq_true cP
            obtain ⟨aHO,aDl,Gi⟩:=Kd.p4 HR3.out (Int.tmod uv (l3.length:Int)) aeW aeX
            cases aDl
            replace Gi:=(HB.out.cell (World.block_lt_of_cell? w _ Gi)).trans Gi
            replace aeW:=eq_true aeW
            replace aeX:=eq_true aeX
            go_wp2
            go_meet
            case rel=>exact ⟨_,(wrap64 (rd l3 (Int.tmod uv (l3.length:Int)))),(by rfl),H',⟨by have:=sw.out;have:=O3.out;have:=HK3.out;omega⟩,⟨lB⟩,⟨nA⟩,⟨om⟩,⟨nB⟩,⟨o7⟩,⟨gI⟩,⟨jQ⟩,⟨aD⟩⟩
           ·rw [if_neg c49] at H
            have amD:decide (0 < (l3.length:Int))=false:=decide_eq_false c49
            have aKH:(l3= [])=True:=eq_true (List.length_eq_zero_iff.mp ay)
            have acJ:decide (0 < l3.length)=false:=decide_eq_false ay
            clear c49
            have H':=ah.mk H
            clear H
            go_wp2
            any_goals (first|exact absurd o8 (of_decide_eq_false acJ)|skip)
            go_meet
            case rel=>exact ⟨_,(Ox),(by rfl),H',⟨by have:=sw.out;have:=O3.out;have:=HK3.out;omega⟩,⟨lB⟩,⟨nA⟩,⟨om⟩,⟨nB⟩,⟨o7⟩,⟨gI⟩,⟨jQ⟩,⟨aD⟩⟩
          case rest=>
           clear aeV
           obtain ⟨kq,kG,rfl,HA,Ug,tu,gX,fX,gY,cX,aV,dz,HB⟩:=hcut
           cases kq with
           |zero=>exact absurd HA.out (by simp [aq.j3])
           |succ aDm=>
            have H:=HA.out
            clear HA
            simp only [aq.j3] at H
            have aeY:=ah.mk H
            clear H
            go_upto_region 20 with (fail)
            go_cut [107] (fun v107 wc=>∃ (kq:Nat) (AJ:Bool),v107= .bool AJ∧ah (aq.j4 kq l3 iZ (wrap64 (1 + (wrap64 (Int.tmod a1 1000)))) sS kG vv uv AJ gy gD eA gW ig iq iA eG (wrap64 (a2)) iW bz=some r)∧ah (kq≤aDm)∧ah (Kd.R (Kd.int .i64) 3 wc w.heap.size (fun _ =>True) (.slice yx iZ.length wz) iZ)∧ah (Kd.R Kd.string 9 wc w.heap.size (fun _ =>True) (.slice fy eA.length fA) eA)∧ah (Kd.R mV 37 wc w.heap.size (fun _ =>True) (.slice (some ⟨lu,0,none⟩) iA.length fJ) iA)∧ah (Kd.R (Kd.int .u8) 5 wc w.heap.size (fun _ =>True) (.slice fS eG.length fT) eG)∧ah (Kd.S Cb 34 wc w.heap.size (fun k_ =>some k_≠((.slice fy eA.length fA):Value).ownBlock∧some k_≠((.slice (some ⟨lu,0,none⟩) iA.length fJ):Value).ownBlock∧some k_≠((.slice fS eG.length fT):Value).ownBlock∧k_≠bA) qu bz)∧ah (wc.heap[bA]? =some (.cells #[.int .i64 gy,.bool gD,(.slice fy eA.length fA),.string gW,.string ig,.bool iq,(.slice (some ⟨lu,0,none⟩) iA.length fJ),(.slice fS eG.length fT),.int .i64 (wrap64 (a2))] 34 (0,0)))∧ah (wc.heap[cJ]? =some (.cells #[.int .i64 iW,qu] 40 (0,0)))∧ah (Below w.heap.size w wc))
            case first=>
             have H:=aeY.out
             clear aeY
             by_cases c55:(bz.length:Int)=1
             ·rw [if_pos c55] at H
              have aHP:=beq_iff_eq.mpr c55
              have aHQ:=bne_eq_false_iff_eq.mpr c55
              clear c55
              obtain ⟨c56,H⟩:=ld H
              have aHS:=decide_eq_true c56
              have aHT:decide (0 < bz.length)=true:=decide_eq_true ay
              clear c56
              by_cases PG:(((av bz 0).f2).length:Int)=1
              ·rw [if_pos PG] at H
               have acj:=beq_iff_eq.mpr PG
               have ack:=bne_eq_false_iff_eq.mpr PG
               clear PG
               obtain ⟨c58,H⟩:=ld H
               have aHV:=decide_eq_true c58
               have aHW:decide (0 < ((av bz 0).f2).length)=true:=decide_eq_true ay
               clear c58
               have H':=ah.mk H
               clear H
               have ahO:=ia.out
               have ahP:=cR.out
               have Xl:wc.cell? ⟨cJ,0,none⟩=some (.int .i64 iW):=(af dz.out 0).trans rfl
               have Xm:wc.cell? ⟨cJ,1,none⟩=some (qu):=(af dz.out 1).trans rfl
               have Xn:=aa dz.out 0
               have Xo:=aa dz.out 1
               obtain ⟨alB,alC,aeJ⟩:=Kd.ji cX.out
               subst aeJ
               have aaF: 0≤(0:Int):=ay
               have aaG: 0 < (bz.length:Int):=of_decide_eq_true cP
               obtain ⟨amF,aDn,aDo,aDp,aDq,aDr,aDs,aDt,Gj,Gk,yI,Gl,Gm,Gn,yJ,yK,Gp,Oy,Oz,OA,OB,OC,OD⟩:=uP (Kd.gv cX.out).2.2 0 aaF aaG
               cases aDt
               obtain ⟨aHX,aeZ,ae0,Gq⟩:=Kd.Lc cX.out z34 0 aaF (by exact aaG)
               obtain ⟨aAr,aAs,aAt,rfl,Gr,Gs,Gt⟩:=sF ae0
               have yL:=Gq 2 _ rfl
               rw [eT _ _ 2 ay] at yL
               replace yL:=Option.some.inj (yL.symm.trans yI)
               rw [yL] at Gr
               have aAu:=ah.mk (show Kd.R Kd.string 9 _ _ _ _ ((av bz 0).f1.f1) from Gr)
               clear yL Gr
               have yM:=Gq 6 _ rfl
               rw [eT _ _ 6 ay] at yM
               replace yM:=Option.some.inj (yM.symm.trans yJ)
               rw [yM] at Gs
               have aAv:=ah.mk (show Kd.R mV 37 _ _ _ _ ((av bz 0).f2) from Gs)
               clear yM Gs
               have yN:=Gq 7 _ rfl
               rw [eT _ _ 7 ay] at yN
               replace yN:=Option.some.inj (yN.symm.trans yK)
               rw [yN] at Gt
               have aAw:=ah.mk (show Kd.R (Kd.int .u8) 5 _ _ _ _ ((av bz 0).f3) from Gt)
               clear yN Gt
               clear Gq aeZ
               have aHY:(0 < bz.length)=True:=eq_true ay
               (try rw [show ((0:Int)).toNat=0 from rfl] at Gj)
               (try rw [show 0 * 9=0 from rfl] at Gj)
               (try rw [Addr.add_zero'] at Gj)
               (try rw [show ((0:Int)).toNat=0 from rfl] at Gk)
               (try rw [show 0 * 9=0 from rfl] at Gk)
               (try rw [Addr.add_zero'] at Gk)
               (try rw [show ((0:Int)).toNat=0 from rfl] at yI)
               (try rw [show 0 * 9=0 from rfl] at yI)
               (try rw [Addr.add_zero'] at yI)
               (try rw [show ((0:Int)).toNat=0 from rfl] at Gl)
               (try rw [show 0 * 9=0 from rfl] at Gl)
               (try rw [Addr.add_zero'] at Gl)
               (try rw [show ((0:Int)).toNat=0 from rfl] at Gm)
               (try rw [show 0 * 9=0 from rfl] at Gm)
               (try rw [Addr.add_zero'] at Gm)
               (try rw [show ((0:Int)).toNat=0 from rfl] at Gn)
               (try rw [show 0 * 9=0 from rfl] at Gn)
               (try rw [Addr.add_zero'] at Gn)
               (try rw [show ((0:Int)).toNat=0 from rfl] at yJ)
               (try rw [show 0 * 9=0 from rfl] at yJ)
               (try rw [Addr.add_zero'] at yJ)
               (try rw [show ((0:Int)).toNat=0 from rfl] at yK)
               (try rw [show 0 * 9=0 from rfl] at yK)
               (try rw [Addr.add_zero'] at yK)
               (try rw [show ((0:Int)).toNat=0 from rfl] at Gp)
               (try rw [show 0 * 9=0 from rfl] at Gp)
               (try rw [Addr.add_zero'] at Gp)
               have aAx:=ah.mk Oz
               have aAy:=ah.mk Oy
               clear Oz Oy
               have aAz:=ah.mk OB
               have aAA:=ah.mk OA
               clear OB OA
               have aAB:=ah.mk OD
               have aAC:=ah.mk OC
               clear OD OC
               replace aaF:=eq_true aaF
               replace aaG:=eq_true aaG
               have aaH: 0≤(0:Int):=ay
               have aaI: 0 < (bz.length:Int):=of_decide_eq_true cP
               obtain ⟨amG,aDu,aDv,aDw,aDx,aDy,aDz,aDA,Gu,Gv,yO,Gw,Gx,Gy,yP,yQ,Gz,OE,OG,OH,OI,OJ,OL⟩:=uP (Kd.gv cX.out).2.2 0 aaH aaI
               obtain rfl:amF=amG:=(by injection aDA)
               obtain ⟨aHZ,ae1,ae2,GA⟩:=Kd.Lc cX.out z34 0 aaH (by exact aaI)
               obtain ⟨aAD,aAE,aAF,rfl,GC,GD,GF⟩:=sF ae2
               have yR:=GA 2 _ rfl
               rw [eT _ _ 2 ay] at yR
               replace yR:=Option.some.inj (yR.symm.trans yO)
               rw [yR] at GC
               have aAG:=ah.mk (show Kd.R Kd.string 9 _ _ _ _ ((av bz 0).f1.f1) from GC)
               clear yR GC
               have yS:=GA 6 _ rfl
               rw [eT _ _ 6 ay] at yS
               replace yS:=Option.some.inj (yS.symm.trans yP)
               rw [yS] at GD
               have aAH:=ah.mk (show Kd.R mV 37 _ _ _ _ ((av bz 0).f2) from GD)
               clear yS GD
               have yT:=GA 7 _ rfl
               rw [eT _ _ 7 ay] at yT
               replace yT:=Option.some.inj (yT.symm.trans yQ)
               rw [yT] at GF
               have aAI:=ah.mk (show Kd.R (Kd.int .u8) 5 _ _ _ _ ((av bz 0).f3) from GF)
               clear yT GF
               clear GA ae1
               have aH0:(0 < bz.length)=True:=eq_true ay
               (try rw [show ((0:Int)).toNat=0 from rfl] at Gu)
               (try rw [show 0 * 9=0 from rfl] at Gu)
               (try rw [Addr.add_zero'] at Gu)
               (try rw [show ((0:Int)).toNat=0 from rfl] at Gv)
               (try rw [show 0 * 9=0 from rfl] at Gv)
               (try rw [Addr.add_zero'] at Gv)
               (try rw [show ((0:Int)).toNat=0 from rfl] at yO)
               (try rw [show 0 * 9=0 from rfl] at yO)
               (try rw [Addr.add_zero'] at yO)
               (try rw [show ((0:Int)).toNat=0 from rfl] at Gw)
               (try rw [show 0 * 9=0 from rfl] at Gw)
               (try rw [Addr.add_zero'] at Gw)
               (try rw [show ((0:Int)).toNat=0 from rfl] at Gx)
               (try rw [show 0 * 9=0 from rfl] at Gx)
               (try rw [Addr.add_zero'] at Gx)
               (try rw [show ((0:Int)).toNat=0 from rfl] at Gy)
               (try rw [show 0 * 9=0 from rfl] at Gy)
               (try rw [Addr.add_zero'] at Gy)
               (try rw [show ((0:Int)).toNat=0 from rfl] at yP)
               (try rw [show 0 * 9=0 from rfl] at yP)
               (try rw [Addr.add_zero'] at yP)
               (try rw [show ((0:Int)).toNat=0 from rfl] at yQ)
               (try rw [show 0 * 9=0 from rfl] at yQ)
               (try rw [Addr.add_zero'] at yQ)
               (try rw [show ((0:Int)).toNat=0 from rfl] at Gz)
               (try rw [show 0 * 9=0 from rfl] at Gz)
               (try rw [Addr.add_zero'] at Gz)
               have aAJ:=ah.mk OG
               have aAK:=ah.mk OE
               clear OG OE
               have aaJ:=ah.mk OI
               have aAL:=ah.mk OH
               clear OI OH
               have aAM:=ah.mk OL
               have aAN:=ah.mk OJ
               clear OL OJ
               replace aaH:=eq_true aaH
               replace aaI:=eq_true aaI
               have BU:=Option.some.inj (yI.symm.trans yO)
               injection BU with BU TM TN
               subst BU
               subst TN
               clear TM
               have BU:=Option.some.inj (yJ.symm.trans yP)
               injection BU with BU TM TN
               subst BU
               subst TN
               clear TM
               have BU:=Option.some.inj (yK.symm.trans yQ)
               injection BU with BU TM TN
               subst BU
               subst TN
               clear TM
               have ae3: 0≤(0:Int):=ay
               have ae4: 0 < (((av bz 0).f2).length:Int):=of_decide_eq_true cP
               obtain ⟨aH1,aDB,GG,GH,GI,GJ,GK,GL⟩:=uO (by repeat ((with_reducible exact aaJ.out))) 0 ae3 ae4
               cases aDB
               have aH2:(0 < ((av bz 0).f2).length)=True:=eq_true ay
               (try rw [show ((0:Int)).toNat=0 from rfl] at GG)
               (try rw [show 0 * 6=0 from rfl] at GG)
               (try rw [Addr.add_zero'] at GG)
               (try rw [show ((0:Int)).toNat=0 from rfl] at GH)
               (try rw [show 0 * 6=0 from rfl] at GH)
               (try rw [Addr.add_zero'] at GH)
               (try rw [show ((0:Int)).toNat=0 from rfl] at GI)
               (try rw [show 0 * 6=0 from rfl] at GI)
               (try rw [Addr.add_zero'] at GI)
               (try rw [show ((0:Int)).toNat=0 from rfl] at GJ)
               (try rw [show 0 * 6=0 from rfl] at GJ)
               (try rw [Addr.add_zero'] at GJ)
               (try rw [show ((0:Int)).toNat=0 from rfl] at GK)
               (try rw [show 0 * 6=0 from rfl] at GK)
               (try rw [Addr.add_zero'] at GK)
               (try rw [show ((0:Int)).toNat=0 from rfl] at GL)
               (try rw [show 0 * 6=0 from rfl] at GL)
               (try rw [Addr.add_zero'] at GL)
               replace ae3:=eq_true ae3
               replace ae4:=eq_true ae4
               go_wp2
               go_meet
               case rel=>exact ⟨_,(decide (((bg ((av bz 0).f2) 0).f3) < IV)),(by rfl),H',⟨by have:=sw.out;have:=O3.out;have:=HK3.out;have:=Ug.out;omega⟩,⟨lB⟩,⟨nA⟩,⟨om⟩,⟨nB⟩,⟨o7⟩,⟨gI⟩,⟨jQ⟩,⟨aD⟩⟩
              ·rw [if_neg PG] at H
               exact (aq.acq H).elim
             ·rw [if_neg c55] at H
              exact (aq.acq H).elim
            case rest=>
             clear aeY
             obtain ⟨kq,AJ,rfl,HA,acQ,tu,gX,fX,gY,cX,aV,dz,HB⟩:=hcut
             cases kq with
             |zero=>exact absurd HA.out (by simp [aq.j4])
             |succ ae5=>
              have H:=HA.out
              clear HA
              simp only [aq.j4] at H
              by_cases c68:AJ=true
              ·subst c68
               rw [if_pos rfl] at H
               exact absurd H cO
              ·replace c68:=Bool.eq_false_iff.mpr c68
               subst c68
               rw [if_neg (show ¬ (false=true) by decide)] at H
               obtain ⟨c69,H⟩:=ld H
               have aH4:=decide_eq_true c69
               have aH5:decide (0 < bz.length)=true:=decide_eq_true ay
               clear c69
               obtain ⟨c70,H⟩:=ld H
               have acm:=decide_eq_true c70
               have acn:decide (0 < ((av bz 0).f2).length)=true:=decide_eq_true ay
               clear c70
               obtain ⟨⟨jP,lf,lJ,lg,mh,mB,kX,mQ,mW,nu,mo,mD,oO,aDC⟩,A71,H⟩:=bd_ H
               (try dsimp only at H)
               obtain ⟨c72,H⟩:=ld H
               have aH6:=beq_iff_eq.mpr c72
               have aH7:=bne_eq_false_iff_eq.mpr c72
               clear c72
               obtain ⟨⟨oZ,nY,aDD⟩,A73,H⟩:=bd_ H
               (try dsimp only at H)
               obtain ⟨c74,H⟩:=ld H
               have aH8:=beq_iff_eq.mpr c74
               have aH9:=bne_eq_false_iff_eq.mpr c74
               clear c74
               have ae6:=ah.mk H
               clear H
               have aIa:=ia.out
               have aIb:=cR.out
               have aay:wc.cell? ⟨cJ,0,none⟩=some (.int .i64 iW):=(af dz.out 0).trans rfl
               have aaz:wc.cell? ⟨cJ,1,none⟩=some (qu):=(af dz.out 1).trans rfl
               have aaA:=aa dz.out 0
               have aaB:=aa dz.out 1
               obtain ⟨aKK,Jn,aDF⟩:=Kd.ji cX.out
               subst aDF
               have aaK: 0≤(0:Int):=ay
               have aaL: 0 < (bz.length:Int):=of_decide_eq_true cP
               obtain ⟨AZ,BV,Kr,aDG,Ks,BW,Kt,aDH,GM,GN,yU,GP,GQ,GR,yV,yX,GS,OM,OO,OP,OQ,OS,OT⟩:=uP (Kd.gv cX.out).2.2 0 aaK aaL
               cases aDH
               obtain ⟨aIc,ae7,ae8,GU⟩:=Kd.Lc cX.out z34 0 aaK (by exact aaL)
               obtain ⟨aAP,aAQ,aAR,rfl,GV,GW,GX⟩:=sF ae8
               have yY:=GU 2 _ rfl
               rw [eT _ _ 2 ay] at yY
               replace yY:=Option.some.inj (yY.symm.trans yU)
               rw [yY] at GV
               have qY:=ah.mk (show Kd.R Kd.string 9 _ _ _ _ ((av bz 0).f1.f1) from GV)
               clear yY GV
               have yZ:=GU 6 _ rfl
               rw [eT _ _ 6 ay] at yZ
               replace yZ:=Option.some.inj (yZ.symm.trans yV)
               rw [yZ] at GW
               have qZ:=ah.mk (show Kd.R mV 37 _ _ _ _ ((av bz 0).f2) from GW)
               clear yZ GW
               have za:=GU 7 _ rfl
               rw [eT _ _ 7 ay] at za
               replace za:=Option.some.inj (za.symm.trans yX)
               rw [za] at GX
               have q9:=ah.mk (show Kd.R (Kd.int .u8) 5 _ _ _ _ ((av bz 0).f3) from GX)
               clear za GX
               clear GU ae7
               have aId:(0 < bz.length)=True:=eq_true ay
               (try rw [show ((0:Int)).toNat=0 from rfl] at GM)
               (try rw [show 0 * 9=0 from rfl] at GM)
               (try rw [Addr.add_zero'] at GM)
               (try rw [show ((0:Int)).toNat=0 from rfl] at GN)
               (try rw [show 0 * 9=0 from rfl] at GN)
               (try rw [Addr.add_zero'] at GN)
               (try rw [show ((0:Int)).toNat=0 from rfl] at yU)
               (try rw [show 0 * 9=0 from rfl] at yU)
               (try rw [Addr.add_zero'] at yU)
               (try rw [show ((0:Int)).toNat=0 from rfl] at GP)
               (try rw [show 0 * 9=0 from rfl] at GP)
               (try rw [Addr.add_zero'] at GP)
               (try rw [show ((0:Int)).toNat=0 from rfl] at GQ)
               (try rw [show 0 * 9=0 from rfl] at GQ)
               (try rw [Addr.add_zero'] at GQ)
               (try rw [show ((0:Int)).toNat=0 from rfl] at GR)
               (try rw [show 0 * 9=0 from rfl] at GR)
               (try rw [Addr.add_zero'] at GR)
               (try rw [show ((0:Int)).toNat=0 from rfl] at yV)
               (try rw [show 0 * 9=0 from rfl] at yV)
               (try rw [Addr.add_zero'] at yV)
               (try rw [show ((0:Int)).toNat=0 from rfl] at yX)
               (try rw [show 0 * 9=0 from rfl] at yX)
               (try rw [Addr.add_zero'] at yX)
               (try rw [show ((0:Int)).toNat=0 from rfl] at GS)
               (try rw [show 0 * 9=0 from rfl] at GS)
               (try rw [Addr.add_zero'] at GS)
               have oc:=ah.mk OO
               have aAS:=ah.mk OM
               clear OO OM
               have nZ:=ah.mk OQ
               have aAT:=ah.mk OP
               clear OQ OP
               have og:=ah.mk OT
               have aAU:=ah.mk OS
               clear OT OS
               replace aaK:=eq_true aaK
               replace aaL:=eq_true aaL
               have ae9: 0≤(0:Int):=ay
               have afa: 0 < (((av bz 0).f2).length:Int):=of_decide_eq_true cP
               obtain ⟨IW,aDI,GY,GZ,G0,G1,G3,G5⟩:=uO sY 0 ae9 afa
               cases aDI
               have aIe:(0 < ((av bz 0).f2).length)=True:=eq_true ay
               (try rw [show ((0:Int)).toNat=0 from rfl] at GY)
               (try rw [show 0 * 6=0 from rfl] at GY)
               (try rw [Addr.add_zero'] at GY)
               (try rw [show ((0:Int)).toNat=0 from rfl] at GZ)
               (try rw [show 0 * 6=0 from rfl] at GZ)
               (try rw [Addr.add_zero'] at GZ)
               (try rw [show ((0:Int)).toNat=0 from rfl] at G0)
               (try rw [show 0 * 6=0 from rfl] at G0)
               (try rw [Addr.add_zero'] at G0)
               (try rw [show ((0:Int)).toNat=0 from rfl] at G1)
               (try rw [show 0 * 6=0 from rfl] at G1)
               (try rw [Addr.add_zero'] at G1)
               (try rw [show ((0:Int)).toNat=0 from rfl] at G3)
               (try rw [show 0 * 6=0 from rfl] at G3)
               (try rw [Addr.add_zero'] at G3)
               (try rw [show ((0:Int)).toNat=0 from rfl] at G5)
               (try rw [show 0 * 6=0 from rfl] at G5)
               (try rw [Addr.add_zero'] at G5)
               replace ae9:=eq_true ae9
               replace afa:=eq_true afa
               have aaM: 0≤(0:Int):=ay
               have aaN: 0 < (bz.length:Int):=of_decide_eq_true cP
               obtain ⟨amH,aDJ,aDK,aDL,aDM,aDN,aDO,aDP,G6,G7,zb,G8,G9,He,ze,zf,Hf,OU,OV,OW,OX,OY,OZ⟩:=uP (Kd.gv cX.out).2.2 0 aaM aaN
               obtain rfl:AZ=amH:=(by injection aDP)
               obtain ⟨aIf,afb,afc,Hg⟩:=Kd.Lc cX.out z34 0 aaM (by exact aaN)
               obtain ⟨aAV,aAW,aAX,rfl,Hh,Hi,Hj⟩:=sF afc
               have zg:=Hg 2 _ rfl
               rw [eT _ _ 2 ay] at zg
               replace zg:=Option.some.inj (zg.symm.trans zb)
               rw [zg] at Hh
               have rq:=ah.mk (show Kd.R Kd.string 9 _ _ _ _ ((av bz 0).f1.f1) from Hh)
               clear zg Hh
               have zh:=Hg 6 _ rfl
               rw [eT _ _ 6 ay] at zh
               replace zh:=Option.some.inj (zh.symm.trans ze)
               rw [zh] at Hi
               have ru:=ah.mk (show Kd.R mV 37 _ _ _ _ ((av bz 0).f2) from Hi)
               clear zh Hi
               have zi:=Hg 7 _ rfl
               rw [eT _ _ 7 ay] at zi
               replace zi:=Option.some.inj (zi.symm.trans zf)
               rw [zi] at Hj
               have ry:=ah.mk (show Kd.R (Kd.int .u8) 5 _ _ _ _ ((av bz 0).f3) from Hj)
               clear zi Hj
               clear Hg afb
               have aIg:(0 < bz.length)=True:=eq_true ay
               (try rw [show ((0:Int)).toNat=0 from rfl] at G6)
               (try rw [show 0 * 9=0 from rfl] at G6)
               (try rw [Addr.add_zero'] at G6)
               (try rw [show ((0:Int)).toNat=0 from rfl] at G7)
               (try rw [show 0 * 9=0 from rfl] at G7)
               (try rw [Addr.add_zero'] at G7)
               (try rw [show ((0:Int)).toNat=0 from rfl] at zb)
               (try rw [show 0 * 9=0 from rfl] at zb)
               (try rw [Addr.add_zero'] at zb)
               (try rw [show ((0:Int)).toNat=0 from rfl] at G8)
               (try rw [show 0 * 9=0 from rfl] at G8)
               (try rw [Addr.add_zero'] at G8)
               (try rw [show ((0:Int)).toNat=0 from rfl] at G9)
               (try rw [show 0 * 9=0 from rfl] at G9)
               (try rw [Addr.add_zero'] at G9)
               (try rw [show ((0:Int)).toNat=0 from rfl] at He)
               (try rw [show 0 * 9=0 from rfl] at He)
               (try rw [Addr.add_zero'] at He)
               (try rw [show ((0:Int)).toNat=0 from rfl] at ze)
               (try rw [show 0 * 9=0 from rfl] at ze)
               (try rw [Addr.add_zero'] at ze)
               (try rw [show ((0:Int)).toNat=0 from rfl] at zf)
               (try rw [show 0 * 9=0 from rfl] at zf)
               (try rw [Addr.add_zero'] at zf)
               (try rw [show ((0:Int)).toNat=0 from rfl] at Hf)
               (try rw [show 0 * 9=0 from rfl] at Hf)
               (try rw [Addr.add_zero'] at Hf)
               have n7:=ah.mk OV
               have aaO:=ah.mk OU
               clear OV OU
               have n9:=ah.mk OX
               have aaP:=ah.mk OW
               clear OX OW
               have oa:=ah.mk OZ
               have aaQ:=ah.mk OY
               clear OZ OY
               replace aaM:=eq_true aaM
               replace aaN:=eq_true aaN
               have BU:=Option.some.inj (yU.symm.trans zb)
               injection BU with BU TM TN
               subst BU
               subst TN
               clear TM
               have BU:=Option.some.inj (yV.symm.trans ze)
               injection BU with BU TM TN
               subst BU
               subst TN
               clear TM
               have BU:=Option.some.inj (yX.symm.trans zf)
               injection BU with BU TM TN
               subst BU
               subst TN
               clear TM
               go_upto_region 29 with (first|((with_reducible refine bq (f:=18) rfl ?_);refine cK (some 126) rfl rfl Tryz.func18 aR rfl #[.slice yx iZ.length wz,.int .i64 (wrap64 (1 + (wrap64 (Int.tmod a1 1000)))),.agg #[.int .i64 ((av bz 0).f0),.bool ((av bz 0).f1.f0),.slice BV ((av bz 0).f1.f1).length Kr,.string ((av bz 0).f1.f2.f0),.string ((av bz 0).f1.f2.f1),.bool ((av bz 0).f1.f2.f2),.slice (some IW) ((av bz 0).f2).length Ks,.slice BW ((av bz 0).f3).length Kt,.int .i64 ((av bz 0).f4)],.int .i64 0,.int .u8 3,.int .i64 (wrap64 (((bg ((av bz 0).f2) 0).f3) + kG))] rfl dc ?_;(with_reducible refine (cg.calls ae5 _ _ iZ (wrap64 (1 + (wrap64 (Int.tmod a1 1000)))) ((av bz 0).f0) ((av bz 0).f1.f0) _ _ ((av bz 0).f1.f1) ((av bz 0).f1.f2.f0) ((av bz 0).f1.f2.f1) ((av bz 0).f1.f2.f2) _ _ ((av bz 0).f2) _ _ ((av bz 0).f3) ((av bz 0).f4) 0 3 (wrap64 (((bg ((av bz 0).f2) 0).f3) + kG)) jP lf lJ lg mh mB kX mQ mW nu mo mD oO aDC _ ?aX ?bF ?dU ?jt ?ju ?jv ?pP ?sK A71.out).mono ?_);(case aX=>repeat (exact (Kd.aZ tu.out).2.2));(case bF=>exact (Kd.aZ tu.out).2.1);(case dU=>repeat (exact sZ));(case jt=>exact aaO.out);(case ju=>repeat (exact td));(case jv=>exact aaP.out);(case pP=>repeat (exact tj));(case sK=>exact aaQ.out);rintro e w79 ⟨aKL,aKM,aKN,rfl,ho0,zk,xH,hb⟩;refine ⟨_,rfl,?_⟩;replace tu:=ah.mk (Kd.aM lB hb);replace cX:=ah.mk (Kd.kB (Kd.zA (Kd.zA (Kd.zA (Kd.QK o7 hb) (Kd.gu ho0)) (Kd.gu zk)) (Kd.gu xH)) (fun _ h_ =>h_.1));have AQ:=ah.mk (Kd.cN (Kd.iR (Kd.iR (Kd.iR ho0 (Kd.iD nA)) (Kd.iD (by exact qY.out))) (Kd.iD (by exact rq.out))) (bL aD));replace gX:=ah.mk (Kd.fo nA (Kd.gu ho0) hb);replace qY:=ah.mk (Kd.fo (by exact qY.out) (Kd.gu ho0) hb);replace rq:=ah.mk (Kd.fo (by exact rq.out) (Kd.gu ho0) hb);have AR:=ah.mk (Kd.cN (Kd.iR (Kd.iR (Kd.iR zk (Kd.iD om)) (Kd.iD (by exact qZ.out))) (Kd.iD (by exact ru.out))) (bL aD));replace fX:=ah.mk (Kd.fo om (Kd.gu zk) hb);replace qZ:=ah.mk (Kd.fo (by exact qZ.out) (Kd.gu zk) hb);replace ru:=ah.mk (Kd.fo (by exact ru.out) (Kd.gu zk) hb);have AU:=ah.mk (Kd.cN (Kd.iR (Kd.iR (Kd.iR xH (Kd.iD nB)) (Kd.iD (by exact q9.out))) (Kd.iD (by exact ry.out))) (bL aD));replace gY:=ah.mk (Kd.fo nB (Kd.gu xH) hb);replace q9:=ah.mk (Kd.fo (by exact q9.out) (Kd.gu xH) hb);replace ry:=ah.mk (Kd.fo (by exact ry.out) (Kd.gu xH) hb);replace aV:=ah.mk (aC gI hb);replace dz:=ah.mk (aC jQ hb);replace oc:=ah.mk (Kd.bG uH hb);replace nZ:=ah.mk (Kd.bG sY hb);replace og:=ah.mk (Kd.bG uI hb);replace n7:=ah.mk (Kd.bG sZ hb);replace n9:=ah.mk (Kd.bG td hb);replace oa:=ah.mk (Kd.bG tj hb);replace HB:=ah.mk (aA aD hb);(try clear hb);(try clear ho0);(try clear zk);(try clear xH))|((with_reducible refine bI (N:=21) rfl ?_);(try (refine bT (by rfl) ?_;dsimp only));refine bR ?hg (N:=21) ?hd (cs:=#[.int .u8 0,.int .i64 0,.int .i64 0,.int .i64 0,.int .i64 0,.bool false,.slice none 0 0,.string (⟨#[]⟩:ByteArray),.string (⟨#[]⟩:ByteArray),.bool false,.slice none 0 0,.slice none 0 0,.int .i64 0]) (t:=46) ?hr ?_;(case hd=>rfl);(case hg=>rfl);(case hr=>(go_simp;done));intro aU hg Af b9 hb;replace tu:=ah.mk (Kd.aM lB hb);replace gX:=ah.mk (Kd.aM nA hb);replace fX:=ah.mk (Kd.aM om hb);replace gY:=ah.mk (Kd.aM nB hb);replace cX:=ah.mk (Kd.kL o7 hb);replace qY:=ah.mk (Kd.aM (by exact qY.out) hb);replace qZ:=ah.mk (Kd.aM (by exact qZ.out) hb);replace q9:=ah.mk (Kd.aM (by exact q9.out) hb);replace rq:=ah.mk (Kd.aM (by exact rq.out) hb);replace ru:=ah.mk (Kd.aM (by exact ru.out) hb);replace ry:=ah.mk (Kd.aM (by exact ry.out) hb);replace AQ:=ah.mk (Kd.aM (by exact AQ.out) hb);replace AR:=ah.mk (Kd.aM (by exact AR.out) hb);replace AU:=ah.mk (Kd.aM (by exact AU.out) hb);replace oc:=ah.mk (Kd.bG uH hb);replace nZ:=ah.mk (Kd.bG sY hb);replace og:=ah.mk (Kd.bG uI hb);replace n7:=ah.mk (Kd.bG sZ hb);replace n9:=ah.mk (Kd.bG td hb);replace oa:=ah.mk (Kd.bG tj hb);have bh:=ah.mk (b9);have aIh:=ah.mk ((bZ:w.heap.size≤aU));have agw:=ah.mk ((bZ:w.heap.size≤aU));replace HB:=ah.mk (aA aD hb);have fK:=ah.mk ((by rw [hg];exact Nat.ne_of_lt (fu gI):bA≠aU));have mN:=ah.mk ((by rw [hg];exact Nat.ne_of_gt (fu gI):aU≠bA));replace aV:=ah.mk (aC gI hb);have fL:=ah.mk ((by rw [hg];exact Nat.ne_of_lt (fu jQ):cJ≠aU));have kN:=ah.mk ((by rw [hg];exact Nat.ne_of_gt (fu jQ):aU≠cJ));replace dz:=ah.mk (aC jQ hb);clear hb b9 hg;have aIi:=mN.out;have aIj:=fK.out;have aIk:=kN.out;have aIl:=fL.out;have Z9:Af.cell? ⟨aU,0,none⟩=some (.int .u8 0):=(af bh.out 0).trans rfl;have aaa:Af.cell? ⟨aU,1,none⟩=some (.int .i64 0):=(af bh.out 1).trans rfl;have aab:Af.cell? ⟨aU,2,none⟩=some (.int .i64 0):=(af bh.out 2).trans rfl;have aac:Af.cell? ⟨aU,3,none⟩=some (.int .i64 0):=(af bh.out 3).trans rfl;have aad:Af.cell? ⟨aU,4,none⟩=some (.int .i64 0):=(af bh.out 4).trans rfl;have aae:Af.cell? ⟨aU,5,none⟩=some (.bool false):=(af bh.out 5).trans rfl;have aaf:Af.cell? ⟨aU,6,none⟩=some (.slice none 0 0):=(af bh.out 6).trans rfl;have aag:Af.cell? ⟨aU,7,none⟩=some (.string (⟨#[]⟩:ByteArray)):=(af bh.out 7).trans rfl;have aah:Af.cell? ⟨aU,8,none⟩=some (.string (⟨#[]⟩:ByteArray)):=(af bh.out 8).trans rfl;have aAY:Af.cell? ⟨aU,9,none⟩=some (.bool false):=(af bh.out 9).trans rfl;have amI:Af.cell? ⟨aU,10,none⟩=some (.slice none 0 0):=(af bh.out 10).trans rfl;have amJ:Af.cell? ⟨aU,11,none⟩=some (.slice none 0 0):=(af bh.out 11).trans rfl;have amK:Af.cell? ⟨aU,12,none⟩=some (.int .i64 0):=(af bh.out 12).trans rfl;have aai:=aa bh.out 0;have aaj:=aa bh.out 1;have aak:=aa bh.out 2;have aal:=aa bh.out 3;have aam:=aa bh.out 4;have aan:=aa bh.out 5;have aao:=aa bh.out 6;have aap:=aa bh.out 7;have aaq:=aa bh.out 8;have aAZ:=aa bh.out 9;have amL:=aa bh.out 10;have amM:=aa bh.out 11;have amN:=aa bh.out 12;obtain ⟨mC,mj,aDQ⟩:=Kd.cM AQ.out;subst aDQ;obtain ⟨nv,mX,aDR⟩:=Kd.cM AR.out;subst aDR;obtain ⟨nQ,ny,aDS⟩:=Kd.cM AU.out;subst aDS;have aA0:Af.cell? ⟨cJ,0,none⟩=some (.int .i64 iW):=(af dz.out 0).trans rfl;have aA1:Af.cell? ⟨cJ,1,none⟩=some (.slice (some AZ) bz.length Jn):=(af dz.out 1).trans rfl;have aA2:=aa dz.out 0;have aA3:=aa dz.out 1)|((with_reducible refine bq (f:=15) rfl ?_);refine cK (some 134) rfl rfl Tryz.func15 aR rfl #[.agg #[.int .i64 iW,.slice (some AZ) bz.length Jn],.agg #[.int .u8 jP,.int .i64 lf,.int .i64 lJ,.int .i64 lg,.int .i64 mh,.bool mB,.slice mC kX.length mj,.string mQ,.string mW,.bool nu,.slice nv mo.length mX,.slice nQ mD.length ny,.int .i64 oO]] rfl dc ?_;(with_reducible refine (eO.calls ae5 iW _ _ bz jP lf lJ lg mh mB _ _ kX mQ mW nu _ _ mo _ _ mD oO oZ nY aDD _ ?aX ?bF ?dU ?jt ?ju ?jv ?pP ?sK ?BR A73.out).mono ?_);(case aX=>refine (Kd.gv (e:=34) (base:=w.heap.size) (ok:=fun k_ =>((((some k_≠(.slice fy eA.length fA:Value).ownBlock∧(some k_≠(.slice (some ⟨lu,0,none⟩) iA.length fJ:Value).ownBlock∧(some k_≠(.slice fS eG.length fT:Value).ownBlock∧k_≠bA)))∧some k_≠(.slice mC kX.length mj:Value).ownBlock)∧some k_≠(.slice nv mo.length mX:Value).ownBlock)∧some k_≠(.slice nQ mD.length ny:Value).ownBlock)) (n:=bz.length) (c:=Jn) ?_).2.2;exact P4);(case bF=>exact (Kd.gv cX.out).2.1);(case dU=>refine (Kd.aZ (e:=9) (base:=w.heap.size) (ok:=fun k_ =>(((True∧some k_≠(.slice fy eA.length fA:Value).ownBlock)∧some k_≠(.slice BV ((av bz 0).f1.f1).length Kr:Value).ownBlock)∧some k_≠(.slice BV ((av bz 0).f1.f1).length Kr:Value).ownBlock)) (n:=kX.length) (c:=mj) ?_).2.2;exact Jf);(case jt=>exact (Kd.aZ AQ.out).2.1);(case ju=>refine (Kd.aZ (e:=37) (base:=w.heap.size) (ok:=fun k_ =>(((True∧some k_≠(.slice (some ⟨lu,0,none⟩) iA.length fJ:Value).ownBlock)∧some k_≠(.slice (some IW) ((av bz 0).f2).length Ks:Value).ownBlock)∧some k_≠(.slice (some IW) ((av bz 0).f2).length Ks:Value).ownBlock)) (n:=mo.length) (c:=mX) ?_).2.2;exact Jg);(case jv=>exact (Kd.aZ AR.out).2.1);(case pP=>refine (Kd.aZ (e:=5) (base:=w.heap.size) (ok:=fun k_ =>(((True∧some k_≠(.slice fS eG.length fT:Value).ownBlock)∧some k_≠(.slice BW ((av bz 0).f3).length Kt:Value).ownBlock)∧some k_≠(.slice BW ((av bz 0).f3).length Kt:Value).ownBlock)) (n:=mD.length) (c:=ny) ?_).2.2;exact Jh);(case sK=>exact (Kd.aZ AU.out).2.1);(case BR=>exact bp.below HG.out CY);rintro e qP ⟨aKO,rfl,ho0,hb⟩;refine ⟨_,rfl,?_⟩;replace tu:=ah.mk (Kd.aM (by exact (Kd.cu (Kd.au (p:=⟨aU,12,none⟩) (Kd.au (p:=⟨aU,11,none⟩) (Kd.au (p:=⟨aU,10,none⟩) (Kd.au (p:=⟨aU,9,none⟩) (Kd.au (p:=⟨aU,8,none⟩) (Kd.au (p:=⟨aU,7,none⟩) (Kd.au (p:=⟨aU,6,none⟩) (Kd.au (p:=⟨aU,5,none⟩) (Kd.au (p:=⟨aU,4,none⟩) (Kd.au (p:=⟨aU,3,none⟩) (Kd.au (p:=⟨aU,2,none⟩) (Kd.au (p:=⟨aU,1,none⟩) (Kd.au (p:=⟨aU,0,none⟩) (Kd.cj tu.out bh.out bE) (fun _ hk=>hk.2) (.int .u8 jP)) (fun _ hk=>hk.2) (.int .i64 lf)) (fun _ hk=>hk.2) (.int .i64 lJ)) (fun _ hk=>hk.2) (.int .i64 lg)) (fun _ hk=>hk.2) (.int .i64 mh)) (fun _ hk=>hk.2) (.bool mB)) (fun _ hk=>hk.2) (.slice mC kX.length mj)) (fun _ hk=>hk.2) (.string mQ)) (fun _ hk=>hk.2) (.string mW)) (fun _ hk=>hk.2) (.bool nu)) (fun _ hk=>hk.2) (.slice nv mo.length mX)) (fun _ hk=>hk.2) (.slice nQ mD.length ny)) (fun _ hk=>hk.2) (.int .i64 oO)) (fun _ h_ =>h_.1))) hb);have aa2:=ah.mk (Kd.qm (Kd.zz (Kd.gi (Kd.gi (Kd.gi (Kd.gi (Kd.gi (Kd.gi (Kd.gi (Kd.gi (Kd.gi (Kd.gi (Kd.gi (Kd.gi (Kd.gi ho0 (Kd.iD P6)) (Kd.iD P7)) (Kd.iD P8)) (Kd.O8 P4)) (Kd.iD P5)) (Kd.iD Ja)) (Kd.iD Jb)) (Kd.iD Jc)) (Kd.iD Jd)) (Kd.iD Je)) (Kd.iD Jf)) (Kd.iD Jg)) (Kd.iD Jh)) (g:=bA) (o:= .cells #[.int .i64 gy,.bool gD,.slice fy eA.length fA,.string gW,.string ig,.bool iq,.slice (some ⟨lu,0,none⟩) iA.length fJ,.slice fS eG.length fT,.int .i64 (wrap64 (a2))] 34 (0,0)) Qb) (bL CY));replace gX:=ah.mk (Kd.aM P6 hb);replace fX:=ah.mk (Kd.aM P7 hb);replace gY:=ah.mk (Kd.aM P8 hb);replace cX:=ah.mk (Kd.xM P4 (Kd.Da ho0) hb);replace AQ:=ah.mk (Kd.aM Jf hb);replace AR:=ah.mk (Kd.aM Jg hb);replace AU:=ah.mk (Kd.aM Jh hb);replace aV:=ah.mk (aC (g:=bA) (o:= .cells #[.int .i64 gy,.bool gD,.slice fy eA.length fA,.string gW,.string ig,.bool iq,.slice (some ⟨lu,0,none⟩) iA.length fJ,.slice fS eG.length fT,.int .i64 (wrap64 (a2))] 34 (0,0)) Qb hb);replace dz:=ah.mk (aC (g:=cJ) (o:= .cells #[.int .i64 iW,.slice (some AZ) bz.length Jn] 40 (0,0)) (by refine aN ?_ fL.out _;refine aN ?_ fL.out _;refine aN ?_ fL.out _;refine aN ?_ fL.out _;refine aN ?_ fL.out _;refine aN ?_ fL.out _;refine aN ?_ fL.out _;refine aN ?_ fL.out _;refine aN ?_ fL.out _;refine aN ?_ fL.out _;refine aN ?_ fL.out _;refine aN ?_ fL.out _;refine aN ?_ fL.out _;exact dz.out) hb);replace oc:=ah.mk (Kd.bG ((Kd.aZ P5).2.2) hb);replace qY:=ah.mk (Kd.aM P5 hb);replace nZ:=ah.mk (Kd.bG ((Kd.aZ Ja).2.2) hb);replace qZ:=ah.mk (Kd.aM Ja hb);replace og:=ah.mk (Kd.bG ((Kd.aZ Jb).2.2) hb);replace q9:=ah.mk (Kd.aM Jb hb);replace n7:=ah.mk (Kd.bG ((Kd.aZ Jc).2.2) hb);replace rq:=ah.mk (Kd.aM Jc hb);replace n9:=ah.mk (Kd.bG ((Kd.aZ Jd).2.2) hb);replace ru:=ah.mk (Kd.aM Jd hb);replace oa:=ah.mk (Kd.bG ((Kd.aZ Je).2.2) hb);replace ry:=ah.mk (Kd.aM Je hb);replace bh:=ah.mk (aC (g:=aU) (o:= .cells #[.int .u8 jP,.int .i64 lf,.int .i64 lJ,.int .i64 lg,.int .i64 mh,.bool mB,.slice mC kX.length mj,.string mQ,.string mW,.bool nu,.slice nv mo.length mX,.slice nQ mD.length ny,.int .i64 oO] 46 (0,0)) (by refine aH (cs:=#[.int .u8 jP,.int .i64 lf,.int .i64 lJ,.int .i64 lg,.int .i64 mh,.bool mB,.slice mC kX.length mj,.string mQ,.string mW,.bool nu,.slice nv mo.length mX,.slice nQ mD.length ny,.int .i64 0]) ?_ 12 _ rfl;refine aH (cs:=#[.int .u8 jP,.int .i64 lf,.int .i64 lJ,.int .i64 lg,.int .i64 mh,.bool mB,.slice mC kX.length mj,.string mQ,.string mW,.bool nu,.slice nv mo.length mX,.slice none 0 0,.int .i64 0]) ?_ 11 _ rfl;refine aH (cs:=#[.int .u8 jP,.int .i64 lf,.int .i64 lJ,.int .i64 lg,.int .i64 mh,.bool mB,.slice mC kX.length mj,.string mQ,.string mW,.bool nu,.slice none 0 0,.slice none 0 0,.int .i64 0]) ?_ 10 _ rfl;refine aH (cs:=#[.int .u8 jP,.int .i64 lf,.int .i64 lJ,.int .i64 lg,.int .i64 mh,.bool mB,.slice mC kX.length mj,.string mQ,.string mW,.bool false,.slice none 0 0,.slice none 0 0,.int .i64 0]) ?_ 9 _ rfl;refine aH (cs:=#[.int .u8 jP,.int .i64 lf,.int .i64 lJ,.int .i64 lg,.int .i64 mh,.bool mB,.slice mC kX.length mj,.string mQ,.string (⟨#[]⟩:ByteArray),.bool false,.slice none 0 0,.slice none 0 0,.int .i64 0]) ?_ 8 _ rfl;refine aH (cs:=#[.int .u8 jP,.int .i64 lf,.int .i64 lJ,.int .i64 lg,.int .i64 mh,.bool mB,.slice mC kX.length mj,.string (⟨#[]⟩:ByteArray),.string (⟨#[]⟩:ByteArray),.bool false,.slice none 0 0,.slice none 0 0,.int .i64 0]) ?_ 7 _ rfl;refine aH (cs:=#[.int .u8 jP,.int .i64 lf,.int .i64 lJ,.int .i64 lg,.int .i64 mh,.bool mB,.slice none 0 0,.string (⟨#[]⟩:ByteArray),.string (⟨#[]⟩:ByteArray),.bool false,.slice none 0 0,.slice none 0 0,.int .i64 0]) ?_ 6 _ rfl;refine aH (cs:=#[.int .u8 jP,.int .i64 lf,.int .i64 lJ,.int .i64 lg,.int .i64 mh,.bool false,.slice none 0 0,.string (⟨#[]⟩:ByteArray),.string (⟨#[]⟩:ByteArray),.bool false,.slice none 0 0,.slice none 0 0,.int .i64 0]) ?_ 5 _ rfl;refine aH (cs:=#[.int .u8 jP,.int .i64 lf,.int .i64 lJ,.int .i64 lg,.int .i64 0,.bool false,.slice none 0 0,.string (⟨#[]⟩:ByteArray),.string (⟨#[]⟩:ByteArray),.bool false,.slice none 0 0,.slice none 0 0,.int .i64 0]) ?_ 4 _ rfl;refine aH (cs:=#[.int .u8 jP,.int .i64 lf,.int .i64 lJ,.int .i64 0,.int .i64 0,.bool false,.slice none 0 0,.string (⟨#[]⟩:ByteArray),.string (⟨#[]⟩:ByteArray),.bool false,.slice none 0 0,.slice none 0 0,.int .i64 0]) ?_ 3 _ rfl;refine aH (cs:=#[.int .u8 jP,.int .i64 lf,.int .i64 0,.int .i64 0,.int .i64 0,.bool false,.slice none 0 0,.string (⟨#[]⟩:ByteArray),.string (⟨#[]⟩:ByteArray),.bool false,.slice none 0 0,.slice none 0 0,.int .i64 0]) ?_ 2 _ rfl;refine aH (cs:=#[.int .u8 jP,.int .i64 0,.int .i64 0,.int .i64 0,.int .i64 0,.bool false,.slice none 0 0,.string (⟨#[]⟩:ByteArray),.string (⟨#[]⟩:ByteArray),.bool false,.slice none 0 0,.slice none 0 0,.int .i64 0]) ?_ 1 _ rfl;refine aH (cs:=#[.int .u8 0,.int .i64 0,.int .i64 0,.int .i64 0,.int .i64 0,.bool false,.slice none 0 0,.string (⟨#[]⟩:ByteArray),.string (⟨#[]⟩:ByteArray),.bool false,.slice none 0 0,.slice none 0 0,.int .i64 0]) ?_ 0 _ rfl;exact bh.out) hb);replace HB:=ah.mk (aA CY hb);(try clear hb);(try clear ho0);have aA4:qP.cell? ⟨cJ,0,none⟩=some (.int .i64 iW):=(af dz.out 0).trans rfl;have aA5:qP.cell? ⟨cJ,1,none⟩=some (.slice (some AZ) bz.length Jn):=(af dz.out 1).trans rfl;have aA6:=aa dz.out 0;have aA7:=aa dz.out 1;obtain ⟨rS,rT,aDT⟩:=Kd.ji aa2.out;subst aDT))
               go_cut [172] (fun aDU wc=>∃ (kq:Nat) (AK:Bool),aDU= .bool AK∧ah (aq.j5 kq l3 iZ (wrap64 (1 + (wrap64 (Int.tmod a1 1000)))) sS kG (wrap64 (((bg ((av bz 0).f2) 0).f3) + kG)) vv uv AK gy gD eA gW ig iq iA eG (wrap64 (a2)) oZ nY jP lf lJ lg mh mB kX mQ mW nu mo mD oO=some r)∧ah (kq≤ae5)∧ah (Kd.R (Kd.int .i64) 3 wc w.heap.size (fun _ =>True) (.slice yx iZ.length wz) iZ)∧ah (Kd.R Kd.string 9 wc w.heap.size (fun k_ =>some k_≠((.slice mC kX.length mj):Value).ownBlock) (.slice fy eA.length fA) eA)∧ah (Kd.R mV 37 wc w.heap.size (fun k_ =>some k_≠((.slice nv mo.length mX):Value).ownBlock) (.slice (some ⟨lu,0,none⟩) iA.length fJ) iA)∧ah (Kd.R (Kd.int .u8) 5 wc w.heap.size (fun k_ =>some k_≠((.slice nQ mD.length ny):Value).ownBlock) (.slice fS eG.length fT) eG)∧ah (Kd.S Cb 34 wc w.heap.size (fun k_ =>some k_≠((.slice fy eA.length fA):Value).ownBlock∧some k_≠((.slice (some ⟨lu,0,none⟩) iA.length fJ):Value).ownBlock∧some k_≠((.slice fS eG.length fT):Value).ownBlock∧some k_≠((.slice mC kX.length mj):Value).ownBlock∧some k_≠((.slice nv mo.length mX):Value).ownBlock∧some k_≠((.slice nQ mD.length ny):Value).ownBlock∧k_≠bA) (.slice rS nY.length rT) nY)∧ah (Kd.R Kd.string 9 wc w.heap.size (fun k_ =>some k_≠((.slice fy eA.length fA):Value).ownBlock) (.slice mC kX.length mj) kX)∧ah (Kd.R mV 37 wc w.heap.size (fun k_ =>some k_≠((.slice (some ⟨lu,0,none⟩) iA.length fJ):Value).ownBlock) (.slice nv mo.length mX) mo)∧ah (Kd.R (Kd.int .u8) 5 wc w.heap.size (fun k_ =>some k_≠((.slice fS eG.length fT):Value).ownBlock) (.slice nQ mD.length ny) mD)∧ah (wc.heap[bA]? =some (.cells #[.int .i64 gy,.bool gD,(.slice fy eA.length fA),.string gW,.string ig,.bool iq,(.slice (some ⟨lu,0,none⟩) iA.length fJ),(.slice fS eG.length fT),.int .i64 (wrap64 (a2))] 34 (0,0)))∧ah (wc.heap[cJ]? =some (.cells #[.int .i64 oZ,(.slice rS nY.length rT)] 40 (0,0)))∧ah (wc.heap[aU]? =some (.cells #[.int .u8 jP,.int .i64 lf,.int .i64 lJ,.int .i64 lg,.int .i64 mh,.bool mB,(.slice mC kX.length mj),.string mQ,.string mW,.bool nu,(.slice nv mo.length mX),(.slice nQ mD.length ny),.int .i64 oO] 46 (0,0)))∧ah (Kd.C Kd.string wc BV ((av bz 0).f1.f1).length ((av bz 0).f1.f1))∧ah (Kd.C mV wc (some IW) ((av bz 0).f2).length ((av bz 0).f2))∧ah (Kd.C (Kd.int .u8) wc BW ((av bz 0).f3).length ((av bz 0).f3))∧ah (Kd.C Kd.string wc BV ((av bz 0).f1.f1).length ((av bz 0).f1.f1))∧ah (Kd.C mV wc (some IW) ((av bz 0).f2).length ((av bz 0).f2))∧ah (Kd.C (Kd.int .u8) wc BW ((av bz 0).f3).length ((av bz 0).f3))∧ah (Below w.heap.size w wc))
               case first=>
                have H:=ae6.out
                clear ae6
                by_cases c91:((jP == 4) != (decide ((wrap64 ((wrap64 (((bg ((av bz 0).f2) 0).f3) + kG)) - (wrap64 (a2))))≥(wrap64 (1 + (wrap64 (Int.tmod a1 1000)))))))=true
                ·rw [if_pos c91] at H
                 exact (aq.TG H).elim
                ·rw [if_neg c91] at H
                 have acK:((jP == 4) != (decide ((wrap64 ((wrap64 (((bg ((av bz 0).f2) 0).f3) + kG)) - (wrap64 (a2))))≥(wrap64 (1 + (wrap64 (Int.tmod a1 1000)))))))=false:=by simpa using c91
                 (try (have aIm:decide ((jP == 4)=(decide ((wrap64 ((wrap64 (((bg ((av bz 0).f2) 0).f3) + kG)) - (wrap64 (a2))))≥(wrap64 (1 + (wrap64 (Int.tmod a1 1000)))))))=true:=by simpa using c91))
                 (try (have aIn:((jP == 4) == (decide ((wrap64 ((wrap64 (((bg ((av bz 0).f2) 0).f3) + kG)) - (wrap64 (a2))))≥(wrap64 (1 + (wrap64 (Int.tmod a1 1000)))))))=true:=by simpa using c91))
                 clear c91
                 by_cases c97:jP=4
                 ·rw [if_pos c97] at H
                  have TP:=beq_iff_eq.mpr c97
                  have aDV:decide ((wrap64 ((wrap64 (((bg ((av bz 0).f2) 0).f3) + kG)) - (wrap64 (a2))))≥(wrap64 (1 + (wrap64 (Int.tmod a1 1000)))))=true:=by {have q_ :=acK;rw [TP] at q_;revert q_;cases decide ((wrap64 ((wrap64 (((bg ((av bz 0).f2) 0).f3) + kG)) - (wrap64 (a2))))≥(wrap64 (1 + (wrap64 (Int.tmod a1 1000)))))<;>simp}
                  have amO:=bne_eq_false_iff_eq.mpr c97
                  clear c97
                  have H':=ah.mk H
                  clear H
                  have aIo:=mN.out
                  have aIp:=fK.out
                  have aIq:=kN.out
                  have aIr:=fL.out
                  have SI:qP.cell? ⟨aU,0,none⟩=some (.int .u8 jP):=(af bh.out 0).trans rfl
                  have SJ:qP.cell? ⟨aU,1,none⟩=some (.int .i64 lf):=(af bh.out 1).trans rfl
                  have SK:qP.cell? ⟨aU,2,none⟩=some (.int .i64 lJ):=(af bh.out 2).trans rfl
                  have SL:qP.cell? ⟨aU,3,none⟩=some (.int .i64 lg):=(af bh.out 3).trans rfl
                  have SM:qP.cell? ⟨aU,4,none⟩=some (.int .i64 mh):=(af bh.out 4).trans rfl
                  have SN:qP.cell? ⟨aU,5,none⟩=some (.bool mB):=(af bh.out 5).trans rfl
                  have SP:qP.cell? ⟨aU,6,none⟩=some (.slice mC kX.length mj):=(af bh.out 6).trans rfl
                  have SQ:qP.cell? ⟨aU,7,none⟩=some (.string mQ):=(af bh.out 7).trans rfl
                  have SR:qP.cell? ⟨aU,8,none⟩=some (.string mW):=(af bh.out 8).trans rfl
                  have amP:qP.cell? ⟨aU,9,none⟩=some (.bool nu):=(af bh.out 9).trans rfl
                  have afJ:qP.cell? ⟨aU,10,none⟩=some (.slice nv mo.length mX):=(af bh.out 10).trans rfl
                  have afK:qP.cell? ⟨aU,11,none⟩=some (.slice nQ mD.length ny):=(af bh.out 11).trans rfl
                  have afL:qP.cell? ⟨aU,12,none⟩=some (.int .i64 oO):=(af bh.out 12).trans rfl
                  have SS:=aa bh.out 0
                  have SU:=aa bh.out 1
                  have SV:=aa bh.out 2
                  have SX:=aa bh.out 3
                  have SY:=aa bh.out 4
                  have SZ:=aa bh.out 5
                  have S0:=aa bh.out 6
                  have S3:=aa bh.out 7
                  have S4:=aa bh.out 8
                  have amQ:=aa bh.out 9
                  have afM:=aa bh.out 10
                  have afN:=aa bh.out 11
                  have afO:=aa bh.out 12
                  have aDW:=cR.out
                  have aDX:=ia.out
                  have S5:qP.cell? ⟨bA,0,none⟩=some (.int .i64 gy):=(af aV.out 0).trans rfl
                  have S6:qP.cell? ⟨bA,1,none⟩=some (.bool gD):=(af aV.out 1).trans rfl
                  have S7:qP.cell? ⟨bA,2,none⟩=some (.slice fy eA.length fA):=(af aV.out 2).trans rfl
                  have S8:qP.cell? ⟨bA,3,none⟩=some (.string gW):=(af aV.out 3).trans rfl
                  have S9:qP.cell? ⟨bA,4,none⟩=some (.string ig):=(af aV.out 4).trans rfl
                  have Ta:qP.cell? ⟨bA,5,none⟩=some (.bool iq):=(af aV.out 5).trans rfl
                  have Tb:qP.cell? ⟨bA,6,none⟩=some (.slice (some ⟨lu,0,none⟩) iA.length fJ):=(af aV.out 6).trans rfl
                  have Tc:qP.cell? ⟨bA,7,none⟩=some (.slice fS eG.length fT):=(af aV.out 7).trans rfl
                  have Td:qP.cell? ⟨bA,8,none⟩=some (.int .i64 (wrap64 (a2))):=(af aV.out 8).trans rfl
                  have Te:=aa aV.out 0
                  have Tf:=aa aV.out 1
                  have Tg:=aa aV.out 2
                  have Th:=aa aV.out 3
                  have Ti:=aa aV.out 4
                  have Tj:=aa aV.out 5
                  have Tk:=aa aV.out 6
                  have Tm:=aa aV.out 7
                  have Tn:=aa aV.out 8
                  go_wp2
                  go_meet
                  case rel=>exact ⟨_,(false),(by rfl),H',⟨KO⟩,⟨Qt⟩,⟨Qh⟩,⟨Qi⟩,⟨Qj⟩,⟨Qc⟩,⟨Qk⟩,⟨Ql⟩,⟨Qm⟩,⟨KS⟩,⟨Qu⟩,⟨KT⟩,⟨(Kd.aZ Qn).2.2⟩,⟨(Kd.aZ Qo).2.2⟩,⟨(Kd.aZ Qp).2.2⟩,⟨(Kd.aZ Qq).2.2⟩,⟨(Kd.aZ Qr).2.2⟩,⟨(Kd.aZ Qs).2.2⟩,⟨KX⟩⟩
                 ·rw [if_neg c97] at H
                  have TP:=beq_eq_false_iff_ne.mpr c97
                  have aDV:decide ((wrap64 ((wrap64 (((bg ((av bz 0).f2) 0).f3) + kG)) - (wrap64 (a2))))≥(wrap64 (1 + (wrap64 (Int.tmod a1 1000)))))=false:=by {have q_ :=acK;rw [TP] at q_;revert q_;cases decide ((wrap64 ((wrap64 (((bg ((av bz 0).f2) 0).f3) + kG)) - (wrap64 (a2))))≥(wrap64 (1 + (wrap64 (Int.tmod a1 1000)))))<;>simp}
                  have amO:=bne_iff_ne.mpr c97
                  by_cases TQ:jP=2
                  ·rw [if_pos TQ] at H
                   have aDY:=beq_iff_eq.mpr TQ
                   have aDZ:=bne_eq_false_iff_eq.mpr TQ
                   clear TQ
                   by_cases aaR:lg≤(wrap64 (((bg ((av bz 0).f2) 0).f3) + kG))
                   ·rw [if_pos aaR] at H
                    exact (aq.TG H).elim
                   ·rw [if_neg aaR] at H
                    have aD0:=decide_eq_false aaR
                    clear aaR
                    have H':=ah.mk H
                    clear H
                    have aD1:=mN.out
                    have aD2:=fK.out
                    have aD3:=kN.out
                    have aD4:=fL.out
                    have amR:qP.cell? ⟨aU,0,none⟩=some (.int .u8 jP):=(af bh.out 0).trans rfl
                    have amS:qP.cell? ⟨aU,1,none⟩=some (.int .i64 lf):=(af bh.out 1).trans rfl
                    have amT:qP.cell? ⟨aU,2,none⟩=some (.int .i64 lJ):=(af bh.out 2).trans rfl
                    have amU:qP.cell? ⟨aU,3,none⟩=some (.int .i64 lg):=(af bh.out 3).trans rfl
                    have amV:qP.cell? ⟨aU,4,none⟩=some (.int .i64 mh):=(af bh.out 4).trans rfl
                    have amW:qP.cell? ⟨aU,5,none⟩=some (.bool mB):=(af bh.out 5).trans rfl
                    have amX:qP.cell? ⟨aU,6,none⟩=some (.slice mC kX.length mj):=(af bh.out 6).trans rfl
                    have amY:qP.cell? ⟨aU,7,none⟩=some (.string mQ):=(af bh.out 7).trans rfl
                    have amZ:qP.cell? ⟨aU,8,none⟩=some (.string mW):=(af bh.out 8).trans rfl
                    have am0:qP.cell? ⟨aU,9,none⟩=some (.bool nu):=(af bh.out 9).trans rfl
                    have afP:qP.cell? ⟨aU,10,none⟩=some (.slice nv mo.length mX):=(af bh.out 10).trans rfl
                    have afQ:qP.cell? ⟨aU,11,none⟩=some (.slice nQ mD.length ny):=(af bh.out 11).trans rfl
                    have afR:qP.cell? ⟨aU,12,none⟩=some (.int .i64 oO):=(af bh.out 12).trans rfl
                    have am1:=aa bh.out 0
                    have am2:=aa bh.out 1
                    have am3:=aa bh.out 2
                    have am4:=aa bh.out 3
                    have am5:=aa bh.out 4
                    have am6:=aa bh.out 5
                    have am7:=aa bh.out 6
                    have am8:=aa bh.out 7
                    have am9:=aa bh.out 8
                    have ana:=aa bh.out 9
                    have afS:=aa bh.out 10
                    have afT:=aa bh.out 11
                    have afU:=aa bh.out 12
                    have aD5:=cR.out
                    have aD6:=ia.out
                    have anb:qP.cell? ⟨bA,0,none⟩=some (.int .i64 gy):=(af aV.out 0).trans rfl
                    have anc:qP.cell? ⟨bA,1,none⟩=some (.bool gD):=(af aV.out 1).trans rfl
                    have ane:qP.cell? ⟨bA,2,none⟩=some (.slice fy eA.length fA):=(af aV.out 2).trans rfl
                    have anf:qP.cell? ⟨bA,3,none⟩=some (.string gW):=(af aV.out 3).trans rfl
                    have ang:qP.cell? ⟨bA,4,none⟩=some (.string ig):=(af aV.out 4).trans rfl
                    have anh:qP.cell? ⟨bA,5,none⟩=some (.bool iq):=(af aV.out 5).trans rfl
                    have ani:qP.cell? ⟨bA,6,none⟩=some (.slice (some ⟨lu,0,none⟩) iA.length fJ):=(af aV.out 6).trans rfl
                    have anj:qP.cell? ⟨bA,7,none⟩=some (.slice fS eG.length fT):=(af aV.out 7).trans rfl
                    have ank:qP.cell? ⟨bA,8,none⟩=some (.int .i64 (wrap64 (a2))):=(af aV.out 8).trans rfl
                    have anl:=aa aV.out 0
                    have anm:=aa aV.out 1
                    have ann:=aa aV.out 2
                    have ano:=aa aV.out 3
                    have anp:=aa aV.out 4
                    have anq:=aa aV.out 5
                    have anr:=aa aV.out 6
                    have ant:=aa aV.out 7
                    have anu:=aa aV.out 8
                    go_wp2
                    go_meet
                    case rel=>exact ⟨_,(decide (lg > (wrap64 ((wrap64 (((bg ((av bz 0).f2) 0).f3) + kG)) + sS)))),(by rfl),H',⟨KO⟩,⟨Qt⟩,⟨Qh⟩,⟨Qi⟩,⟨Qj⟩,⟨Qc⟩,⟨Qk⟩,⟨Ql⟩,⟨Qm⟩,⟨KS⟩,⟨Qu⟩,⟨KT⟩,⟨(Kd.aZ Qn).2.2⟩,⟨(Kd.aZ Qo).2.2⟩,⟨(Kd.aZ Qp).2.2⟩,⟨(Kd.aZ Qq).2.2⟩,⟨(Kd.aZ Qr).2.2⟩,⟨(Kd.aZ Qs).2.2⟩,⟨KX⟩⟩
                  ·rw [if_neg TQ] at H
                   exact (aq.TG H).elim
               case rest=>
                clear ae6
                obtain ⟨kq,AK,rfl,HA,anv,tu,gX,fX,gY,cX,o9,pg,pq,aV,dz,bh,oc,nZ,og,n7,n9,oa,HB⟩:=hcut
                cases kq with
                |zero=>exact absurd HA.out (by simp [aq.j5])
                |succ Ku=>
                 have H:=HA.out
                 clear HA
                 simp only [aq.j5] at H
                 by_cases aaS:AK=true
                 ·subst aaS
                  rw [if_pos rfl] at H
                  exact absurd H cO
                 ·replace aaS:=Bool.eq_false_iff.mpr aaS
                  subst aaS
                  rw [if_neg (show ¬ (false=true) by decide)] at H
                  by_cases Kv:jP=4
                  ·rw [if_pos Kv] at H
                   have afe:=beq_iff_eq.mpr Kv
                   have aff:=bne_eq_false_iff_eq.mpr Kv
                   clear Kv
                   by_cases PK:(l3.length:Int) > 0
                   ·rw [if_pos PK] at H
                    have afg:decide (0 < (l3.length:Int))=true:=decide_eq_true PK
                    have afh:decide (0 < l3.length)=true:=decide_eq_true ay
                    clear PK
                    obtain ⟨Km,anw,H⟩:=bd_ H
                    by_cases c124:(Km.length:Int)=1
                    ·rw [if_pos c124] at H
                     have afi:=beq_iff_eq.mpr c124
                     have afj:=bne_eq_false_iff_eq.mpr c124
                     clear c124
                     obtain ⟨TE,aD7,H⟩:=bd_ H
                     obtain rfl:=Option.some.inj H
                     have aD8:=mN.out
                     have aD9:=fK.out
                     have aEa:=kN.out
                     have aEb:=fL.out
                     have anx:wc.cell? ⟨aU,0,none⟩=some (.int .u8 jP):=(af bh.out 0).trans rfl
                     have anz:wc.cell? ⟨aU,1,none⟩=some (.int .i64 lf):=(af bh.out 1).trans rfl
                     have anA:wc.cell? ⟨aU,2,none⟩=some (.int .i64 lJ):=(af bh.out 2).trans rfl
                     have anB:wc.cell? ⟨aU,3,none⟩=some (.int .i64 lg):=(af bh.out 3).trans rfl
                     have anC:wc.cell? ⟨aU,4,none⟩=some (.int .i64 mh):=(af bh.out 4).trans rfl
                     have anD:wc.cell? ⟨aU,5,none⟩=some (.bool mB):=(af bh.out 5).trans rfl
                     have anE:wc.cell? ⟨aU,6,none⟩=some (.slice mC kX.length mj):=(af bh.out 6).trans rfl
                     have anF:wc.cell? ⟨aU,7,none⟩=some (.string mQ):=(af bh.out 7).trans rfl
                     have anG:wc.cell? ⟨aU,8,none⟩=some (.string mW):=(af bh.out 8).trans rfl
                     have anH:wc.cell? ⟨aU,9,none⟩=some (.bool nu):=(af bh.out 9).trans rfl
                     have afV:wc.cell? ⟨aU,10,none⟩=some (.slice nv mo.length mX):=(af bh.out 10).trans rfl
                     have afW:wc.cell? ⟨aU,11,none⟩=some (.slice nQ mD.length ny):=(af bh.out 11).trans rfl
                     have afX:wc.cell? ⟨aU,12,none⟩=some (.int .i64 oO):=(af bh.out 12).trans rfl
                     have anI:=aa bh.out 0
                     have anJ:=aa bh.out 1
                     have anK:=aa bh.out 2
                     have anL:=aa bh.out 3
                     have anM:=aa bh.out 4
                     have anN:=aa bh.out 5
                     have anO:=aa bh.out 6
                     have anP:=aa bh.out 7
                     have anQ:=aa bh.out 8
                     have anR:=aa bh.out 9
                     have afY:=aa bh.out 10
                     have afZ:=aa bh.out 11
                     have af0:=aa bh.out 12
                     have aEc:=ia.out
                     have aEd:=cR.out
                     have anS:wc.cell? ⟨cJ,0,none⟩=some (.int .i64 oZ):=(af dz.out 0).trans rfl
                     have anT:wc.cell? ⟨cJ,1,none⟩=some (.slice rS nY.length rT):=(af dz.out 1).trans rfl
                     have anU:=aa dz.out 0
                     have anV:=aa dz.out 1
                     go_wp2_with (first|(go_at_call 19;(with_reducible refine (dH.calls Ku oZ _ _ nY Km _ ?aX ?bF anw.out).mono ?_);(case aX=>repeat (exact (Kd.gv cX.out).2.2));(case bF=>exact (Kd.gv cX.out).2.1);rintro e aKP ⟨aEe,rfl,ho0,hb⟩;replace gX:=ah.mk (Kd.aM nA hb);replace fX:=ah.mk (Kd.aM om hb);replace gY:=ah.mk (Kd.aM nB hb);replace cX:=ah.mk (Kd.kL o7 hb);replace o9:=ah.mk (Kd.aM vQ hb);replace pg:=ah.mk (Kd.aM vR hb);replace pq:=ah.mk (Kd.aM vS hb);have IX:=ah.mk (Kd.cN (Kd.iR ho0 (Kd.iD lB)) (bL aD));replace tu:=ah.mk (Kd.fo lB (Kd.gu ho0) hb);replace aV:=ah.mk (aC gI hb);replace dz:=ah.mk (aC jQ hb);replace bh:=ah.mk (aC vV hb);replace oc:=ah.mk (Kd.bG uH hb);replace nZ:=ah.mk (Kd.bG sY hb);replace og:=ah.mk (Kd.bG uI hb);replace n7:=ah.mk (Kd.bG sZ hb);replace n9:=ah.mk (Kd.bG td hb);replace oa:=ah.mk (Kd.bG tj hb);replace HB:=ah.mk (aA aD hb);(try clear hb);(try clear ho0);obtain ⟨aIs,aIt,anW⟩:=Kd.cM IX.out;subst anW)|(go_at_call 20;(with_reducible refine (dA.calls Ku TE _ aD7.out).mono ?_);rintro e aKQ ⟨rfl,hb⟩;replace tu:=ah.mk (Kd.aM lB hb);replace gX:=ah.mk (Kd.aM nA hb);replace fX:=ah.mk (Kd.aM om hb);replace gY:=ah.mk (Kd.aM nB hb);replace cX:=ah.mk (Kd.kL o7 hb);replace o9:=ah.mk (Kd.aM vQ hb);replace pg:=ah.mk (Kd.aM vR hb);replace pq:=ah.mk (Kd.aM vS hb);replace IX:=ah.mk (Kd.aM (by exact IX.out) hb);replace aV:=ah.mk (aC gI hb);replace dz:=ah.mk (aC jQ hb);replace bh:=ah.mk (aC vV hb);replace oc:=ah.mk (Kd.bG uH hb);replace nZ:=ah.mk (Kd.bG sY hb);replace og:=ah.mk (Kd.bG uI hb);replace n7:=ah.mk (Kd.bG sZ hb);replace n9:=ah.mk (Kd.bG td hb);replace oa:=ah.mk (Kd.bG tj hb);replace HB:=ah.mk (aA aD hb);(try clear hb)))
                     go_ret
                     exact ⟨by rfl,aD⟩
                    ·rw [if_neg c124] at H
                     have afi:=beq_eq_false_iff_ne.mpr c124
                     have afj:=bne_iff_ne.mpr c124
                     obtain rfl:=Option.some.inj H
                     have aEf:=mN.out
                     have aEg:=fK.out
                     have aEh:=kN.out
                     have aEi:=fL.out
                     have anX:wc.cell? ⟨aU,0,none⟩=some (.int .u8 jP):=(af bh.out 0).trans rfl
                     have anY:wc.cell? ⟨aU,1,none⟩=some (.int .i64 lf):=(af bh.out 1).trans rfl
                     have anZ:wc.cell? ⟨aU,2,none⟩=some (.int .i64 lJ):=(af bh.out 2).trans rfl
                     have an0:wc.cell? ⟨aU,3,none⟩=some (.int .i64 lg):=(af bh.out 3).trans rfl
                     have an1:wc.cell? ⟨aU,4,none⟩=some (.int .i64 mh):=(af bh.out 4).trans rfl
                     have an2:wc.cell? ⟨aU,5,none⟩=some (.bool mB):=(af bh.out 5).trans rfl
                     have an3:wc.cell? ⟨aU,6,none⟩=some (.slice mC kX.length mj):=(af bh.out 6).trans rfl
                     have an4:wc.cell? ⟨aU,7,none⟩=some (.string mQ):=(af bh.out 7).trans rfl
                     have an5:wc.cell? ⟨aU,8,none⟩=some (.string mW):=(af bh.out 8).trans rfl
                     have an6:wc.cell? ⟨aU,9,none⟩=some (.bool nu):=(af bh.out 9).trans rfl
                     have af1:wc.cell? ⟨aU,10,none⟩=some (.slice nv mo.length mX):=(af bh.out 10).trans rfl
                     have af2:wc.cell? ⟨aU,11,none⟩=some (.slice nQ mD.length ny):=(af bh.out 11).trans rfl
                     have af3:wc.cell? ⟨aU,12,none⟩=some (.int .i64 oO):=(af bh.out 12).trans rfl
                     have an7:=aa bh.out 0
                     have an8:=aa bh.out 1
                     have an9:=aa bh.out 2
                     have aoa:=aa bh.out 3
                     have aob:=aa bh.out 4
                     have aoc:=aa bh.out 5
                     have aod:=aa bh.out 6
                     have aoe:=aa bh.out 7
                     have aof:=aa bh.out 8
                     have aog:=aa bh.out 9
                     have af4:=aa bh.out 10
                     have af5:=aa bh.out 11
                     have af6:=aa bh.out 12
                     have aEj:=ia.out
                     have aEk:=cR.out
                     have aoh:wc.cell? ⟨cJ,0,none⟩=some (.int .i64 oZ):=(af dz.out 0).trans rfl
                     have aoi:wc.cell? ⟨cJ,1,none⟩=some (.slice rS nY.length rT):=(af dz.out 1).trans rfl
                     have aoj:=aa dz.out 0
                     have aok:=aa dz.out 1
                     go_wp2_with ((go_at_call 19;(with_reducible refine (dH.calls Ku oZ _ _ nY Km _ ?aX ?bF anw.out).mono ?_);(case aX=>repeat (exact (Kd.gv cX.out).2.2));(case bF=>exact (Kd.gv cX.out).2.1);rintro e aKR ⟨aEe,rfl,ho0,hb⟩;replace gX:=ah.mk (Kd.aM nA hb);replace fX:=ah.mk (Kd.aM om hb);replace gY:=ah.mk (Kd.aM nB hb);replace cX:=ah.mk (Kd.kL o7 hb);replace o9:=ah.mk (Kd.aM vQ hb);replace pg:=ah.mk (Kd.aM vR hb);replace pq:=ah.mk (Kd.aM vS hb);have IX:=ah.mk (Kd.cN (Kd.iR ho0 (Kd.iD lB)) (bL aD));replace tu:=ah.mk (Kd.fo lB (Kd.gu ho0) hb);replace aV:=ah.mk (aC gI hb);replace dz:=ah.mk (aC jQ hb);replace bh:=ah.mk (aC vV hb);replace oc:=ah.mk (Kd.bG uH hb);replace nZ:=ah.mk (Kd.bG sY hb);replace og:=ah.mk (Kd.bG uI hb);replace n7:=ah.mk (Kd.bG sZ hb);replace n9:=ah.mk (Kd.bG td hb);replace oa:=ah.mk (Kd.bG tj hb);replace HB:=ah.mk (aA aD hb);(try clear hb);(try clear ho0);obtain ⟨aIu,aIv,aol⟩:=Kd.cM IX.out;subst aol))
                     go_ret
                     exact ⟨by rfl,aD⟩
                   ·rw [if_neg PK] at H
                    have afg:decide (0 < (l3.length:Int))=false:=decide_eq_false PK
                    have aIw:(l3= [])=True:=eq_true (List.length_eq_zero_iff.mp ay)
                    have afh:decide (0 < l3.length)=false:=decide_eq_false ay
                    clear PK
                    by_cases c141:(wrap64 ((wrap64 (((bg ((av bz 0).f2) 0).f3) + kG)) - (wrap64 (a2)))) < (wrap64 ((wrap64 (1 + (wrap64 (Int.tmod a1 1000)))) + sS))
                    ·rw [if_pos c141] at H
                     have afk:=decide_eq_true c141
                     clear c141
                     obtain ⟨TF,aom,H⟩:=bd_ H
                     by_cases c143:(TF.length:Int)=1
                     ·rw [if_pos c143] at H
                      have afl:=beq_iff_eq.mpr c143
                      have afm:=bne_eq_false_iff_eq.mpr c143
                      clear c143
                      obtain ⟨aeQ,aEl,H⟩:=bd_ H
                      obtain rfl:=Option.some.inj H
                      have aEm:=mN.out
                      have aEn:=fK.out
                      have aEo:=kN.out
                      have aEp:=fL.out
                      have aon:wc.cell? ⟨aU,0,none⟩=some (.int .u8 jP):=(af bh.out 0).trans rfl
                      have aoo:wc.cell? ⟨aU,1,none⟩=some (.int .i64 lf):=(af bh.out 1).trans rfl
                      have aop:wc.cell? ⟨aU,2,none⟩=some (.int .i64 lJ):=(af bh.out 2).trans rfl
                      have aoq:wc.cell? ⟨aU,3,none⟩=some (.int .i64 lg):=(af bh.out 3).trans rfl
                      have aor:wc.cell? ⟨aU,4,none⟩=some (.int .i64 mh):=(af bh.out 4).trans rfl
                      have aos:wc.cell? ⟨aU,5,none⟩=some (.bool mB):=(af bh.out 5).trans rfl
                      have aot:wc.cell? ⟨aU,6,none⟩=some (.slice mC kX.length mj):=(af bh.out 6).trans rfl
                      have aou:wc.cell? ⟨aU,7,none⟩=some (.string mQ):=(af bh.out 7).trans rfl
                      have aov:wc.cell? ⟨aU,8,none⟩=some (.string mW):=(af bh.out 8).trans rfl
                      have aow:wc.cell? ⟨aU,9,none⟩=some (.bool nu):=(af bh.out 9).trans rfl
                      have af7:wc.cell? ⟨aU,10,none⟩=some (.slice nv mo.length mX):=(af bh.out 10).trans rfl
                      have af8:wc.cell? ⟨aU,11,none⟩=some (.slice nQ mD.length ny):=(af bh.out 11).trans rfl
                      have af9:wc.cell? ⟨aU,12,none⟩=some (.int .i64 oO):=(af bh.out 12).trans rfl
                      have aox:=aa bh.out 0
                      have aoy:=aa bh.out 1
                      have aoz:=aa bh.out 2
                      have aoA:=aa bh.out 3
                      have aoB:=aa bh.out 4
                      have aoC:=aa bh.out 5
                      have aoD:=aa bh.out 6
                      have aoE:=aa bh.out 7
                      have aoF:=aa bh.out 8
                      have aoG:=aa bh.out 9
                      have aga:=aa bh.out 10
                      have agb:=aa bh.out 11
                      have agc:=aa bh.out 12
                      have aEq:=cR.out
                      have aEr:=ia.out
                      have aoH:wc.cell? ⟨bA,0,none⟩=some (.int .i64 gy):=(af aV.out 0).trans rfl
                      have aoI:wc.cell? ⟨bA,1,none⟩=some (.bool gD):=(af aV.out 1).trans rfl
                      have aoJ:wc.cell? ⟨bA,2,none⟩=some (.slice fy eA.length fA):=(af aV.out 2).trans rfl
                      have aoK:wc.cell? ⟨bA,3,none⟩=some (.string gW):=(af aV.out 3).trans rfl
                      have aoL:wc.cell? ⟨bA,4,none⟩=some (.string ig):=(af aV.out 4).trans rfl
                      have aoM:wc.cell? ⟨bA,5,none⟩=some (.bool iq):=(af aV.out 5).trans rfl
                      have aoN:wc.cell? ⟨bA,6,none⟩=some (.slice (some ⟨lu,0,none⟩) iA.length fJ):=(af aV.out 6).trans rfl
                      have aoO:wc.cell? ⟨bA,7,none⟩=some (.slice fS eG.length fT):=(af aV.out 7).trans rfl
                      have aoP:wc.cell? ⟨bA,8,none⟩=some (.int .i64 (wrap64 (a2))):=(af aV.out 8).trans rfl
                      have aoQ:=aa aV.out 0
                      have aoR:=aa aV.out 1
                      have aoS:=aa aV.out 2
                      have aoT:=aa aV.out 3
                      have aoU:=aa aV.out 4
                      have aoV:=aa aV.out 5
                      have aoW:=aa aV.out 6
                      have aoX:=aa aV.out 7
                      have aoY:=aa aV.out 8
                      have aoZ:wc.cell? ⟨cJ,0,none⟩=some (.int .i64 oZ):=(af dz.out 0).trans rfl
                      have ao0:wc.cell? ⟨cJ,1,none⟩=some (.slice rS nY.length rT):=(af dz.out 1).trans rfl
                      have ao1:=aa dz.out 0
                      have ao2:=aa dz.out 1
                      go_wp2_with (first|(go_at_call 19;(with_reducible refine (dH.calls Ku oZ _ _ nY TF _ ?aX ?bF aom.out).mono ?_);(case aX=>repeat (exact (Kd.gv cX.out).2.2));(case bF=>exact (Kd.gv cX.out).2.1);rintro e aKS ⟨aEs,rfl,ho0,hb⟩;replace gX:=ah.mk (Kd.aM nA hb);replace fX:=ah.mk (Kd.aM om hb);replace gY:=ah.mk (Kd.aM nB hb);replace cX:=ah.mk (Kd.kL o7 hb);replace o9:=ah.mk (Kd.aM vQ hb);replace pg:=ah.mk (Kd.aM vR hb);replace pq:=ah.mk (Kd.aM vS hb);have IY:=ah.mk (Kd.cN (Kd.iR ho0 (Kd.iD lB)) (bL aD));replace tu:=ah.mk (Kd.fo lB (Kd.gu ho0) hb);replace aV:=ah.mk (aC gI hb);replace dz:=ah.mk (aC jQ hb);replace bh:=ah.mk (aC vV hb);replace oc:=ah.mk (Kd.bG uH hb);replace nZ:=ah.mk (Kd.bG sY hb);replace og:=ah.mk (Kd.bG uI hb);replace n7:=ah.mk (Kd.bG sZ hb);replace n9:=ah.mk (Kd.bG td hb);replace oa:=ah.mk (Kd.bG tj hb);replace HB:=ah.mk (aA aD hb);(try clear hb);(try clear ho0);obtain ⟨aIx,aIy,ao3⟩:=Kd.cM IY.out;subst ao3)|(go_at_call 20;(with_reducible refine (dA.calls Ku aeQ _ aEl.out).mono ?_);rintro e aKT ⟨rfl,hb⟩;replace tu:=ah.mk (Kd.aM lB hb);replace gX:=ah.mk (Kd.aM nA hb);replace fX:=ah.mk (Kd.aM om hb);replace gY:=ah.mk (Kd.aM nB hb);replace cX:=ah.mk (Kd.kL o7 hb);replace o9:=ah.mk (Kd.aM vQ hb);replace pg:=ah.mk (Kd.aM vR hb);replace pq:=ah.mk (Kd.aM vS hb);replace IY:=ah.mk (Kd.aM (by exact IY.out) hb);replace aV:=ah.mk (aC gI hb);replace dz:=ah.mk (aC jQ hb);replace bh:=ah.mk (aC vV hb);replace oc:=ah.mk (Kd.bG uH hb);replace nZ:=ah.mk (Kd.bG sY hb);replace og:=ah.mk (Kd.bG uI hb);replace n7:=ah.mk (Kd.bG sZ hb);replace n9:=ah.mk (Kd.bG td hb);replace oa:=ah.mk (Kd.bG tj hb);replace HB:=ah.mk (aA aD hb);(try clear hb)))
                      go_ret
                      exact ⟨by rfl,aD⟩
                     ·rw [if_neg c143] at H
                      have afl:=beq_eq_false_iff_ne.mpr c143
                      have afm:=bne_iff_ne.mpr c143
                      obtain rfl:=Option.some.inj H
                      have aEt:=mN.out
                      have aEu:=fK.out
                      have aEv:=kN.out
                      have aEw:=fL.out
                      have ao4:wc.cell? ⟨aU,0,none⟩=some (.int .u8 jP):=(af bh.out 0).trans rfl
                      have ao5:wc.cell? ⟨aU,1,none⟩=some (.int .i64 lf):=(af bh.out 1).trans rfl
                      have ao6:wc.cell? ⟨aU,2,none⟩=some (.int .i64 lJ):=(af bh.out 2).trans rfl
                      have ao7:wc.cell? ⟨aU,3,none⟩=some (.int .i64 lg):=(af bh.out 3).trans rfl
                      have ao8:wc.cell? ⟨aU,4,none⟩=some (.int .i64 mh):=(af bh.out 4).trans rfl
                      have ao9:wc.cell? ⟨aU,5,none⟩=some (.bool mB):=(af bh.out 5).trans rfl
                      have apa:wc.cell? ⟨aU,6,none⟩=some (.slice mC kX.length mj):=(af bh.out 6).trans rfl
                      have apb:wc.cell? ⟨aU,7,none⟩=some (.string mQ):=(af bh.out 7).trans rfl
                      have apc:wc.cell? ⟨aU,8,none⟩=some (.string mW):=(af bh.out 8).trans rfl
                      have apd:wc.cell? ⟨aU,9,none⟩=some (.bool nu):=(af bh.out 9).trans rfl
                      have agd:wc.cell? ⟨aU,10,none⟩=some (.slice nv mo.length mX):=(af bh.out 10).trans rfl
                      have age:wc.cell? ⟨aU,11,none⟩=some (.slice nQ mD.length ny):=(af bh.out 11).trans rfl
                      have agf:wc.cell? ⟨aU,12,none⟩=some (.int .i64 oO):=(af bh.out 12).trans rfl
                      have ape:=aa bh.out 0
                      have apf:=aa bh.out 1
                      have apg:=aa bh.out 2
                      have aph:=aa bh.out 3
                      have api:=aa bh.out 4
                      have apj:=aa bh.out 5
                      have apk:=aa bh.out 6
                      have apl:=aa bh.out 7
                      have apm:=aa bh.out 8
                      have apn:=aa bh.out 9
                      have agh:=aa bh.out 10
                      have agi:=aa bh.out 11
                      have agj:=aa bh.out 12
                      have aEx:=cR.out
                      have aEy:=ia.out
                      have apo:wc.cell? ⟨bA,0,none⟩=some (.int .i64 gy):=(af aV.out 0).trans rfl
                      have apq:wc.cell? ⟨bA,1,none⟩=some (.bool gD):=(af aV.out 1).trans rfl
                      have apr:wc.cell? ⟨bA,2,none⟩=some (.slice fy eA.length fA):=(af aV.out 2).trans rfl
                      have aps:wc.cell? ⟨bA,3,none⟩=some (.string gW):=(af aV.out 3).trans rfl
                      have apt:wc.cell? ⟨bA,4,none⟩=some (.string ig):=(af aV.out 4).trans rfl
                      have apu:wc.cell? ⟨bA,5,none⟩=some (.bool iq):=(af aV.out 5).trans rfl
                      have apv:wc.cell? ⟨bA,6,none⟩=some (.slice (some ⟨lu,0,none⟩) iA.length fJ):=(af aV.out 6).trans rfl
                      have apw:wc.cell? ⟨bA,7,none⟩=some (.slice fS eG.length fT):=(af aV.out 7).trans rfl
                      have apx:wc.cell? ⟨bA,8,none⟩=some (.int .i64 (wrap64 (a2))):=(af aV.out 8).trans rfl
                      have apy:=aa aV.out 0
                      have apz:=aa aV.out 1
                      have apA:=aa aV.out 2
                      have apB:=aa aV.out 3
                      have apC:=aa aV.out 4
                      have apD:=aa aV.out 5
                      have apE:=aa aV.out 6
                      have apF:=aa aV.out 7
                      have apG:=aa aV.out 8
                      have apH:wc.cell? ⟨cJ,0,none⟩=some (.int .i64 oZ):=(af dz.out 0).trans rfl
                      have apI:wc.cell? ⟨cJ,1,none⟩=some (.slice rS nY.length rT):=(af dz.out 1).trans rfl
                      have apJ:=aa dz.out 0
                      have apK:=aa dz.out 1
                      go_wp2_with ((go_at_call 19;(with_reducible refine (dH.calls Ku oZ _ _ nY TF _ ?aX ?bF aom.out).mono ?_);(case aX=>repeat (exact (Kd.gv cX.out).2.2));(case bF=>exact (Kd.gv cX.out).2.1);rintro e aKU ⟨aEs,rfl,ho0,hb⟩;replace gX:=ah.mk (Kd.aM nA hb);replace fX:=ah.mk (Kd.aM om hb);replace gY:=ah.mk (Kd.aM nB hb);replace cX:=ah.mk (Kd.kL o7 hb);replace o9:=ah.mk (Kd.aM vQ hb);replace pg:=ah.mk (Kd.aM vR hb);replace pq:=ah.mk (Kd.aM vS hb);have IY:=ah.mk (Kd.cN (Kd.iR ho0 (Kd.iD lB)) (bL aD));replace tu:=ah.mk (Kd.fo lB (Kd.gu ho0) hb);replace aV:=ah.mk (aC gI hb);replace dz:=ah.mk (aC jQ hb);replace bh:=ah.mk (aC vV hb);replace oc:=ah.mk (Kd.bG uH hb);replace nZ:=ah.mk (Kd.bG sY hb);replace og:=ah.mk (Kd.bG uI hb);replace n7:=ah.mk (Kd.bG sZ hb);replace n9:=ah.mk (Kd.bG td hb);replace oa:=ah.mk (Kd.bG tj hb);replace HB:=ah.mk (aA aD hb);(try clear hb);(try clear ho0);obtain ⟨aIz,aIA,apL⟩:=Kd.cM IY.out;subst apL))
                      go_ret
                      exact ⟨by rfl,aD⟩
                    ·rw [if_neg c141] at H
                     have afk:=decide_eq_false c141
                     clear c141
                     obtain rfl:=Option.some.inj H
                     have aEz:=mN.out
                     have aEA:=fK.out
                     have aEB:=kN.out
                     have aEC:=fL.out
                     have apM:wc.cell? ⟨aU,0,none⟩=some (.int .u8 jP):=(af bh.out 0).trans rfl
                     have apN:wc.cell? ⟨aU,1,none⟩=some (.int .i64 lf):=(af bh.out 1).trans rfl
                     have apO:wc.cell? ⟨aU,2,none⟩=some (.int .i64 lJ):=(af bh.out 2).trans rfl
                     have apP:wc.cell? ⟨aU,3,none⟩=some (.int .i64 lg):=(af bh.out 3).trans rfl
                     have apQ:wc.cell? ⟨aU,4,none⟩=some (.int .i64 mh):=(af bh.out 4).trans rfl
                     have apR:wc.cell? ⟨aU,5,none⟩=some (.bool mB):=(af bh.out 5).trans rfl
                     have apS:wc.cell? ⟨aU,6,none⟩=some (.slice mC kX.length mj):=(af bh.out 6).trans rfl
                     have apT:wc.cell? ⟨aU,7,none⟩=some (.string mQ):=(af bh.out 7).trans rfl
                     have apU:wc.cell? ⟨aU,8,none⟩=some (.string mW):=(af bh.out 8).trans rfl
                     have apV:wc.cell? ⟨aU,9,none⟩=some (.bool nu):=(af bh.out 9).trans rfl
                     have agk:wc.cell? ⟨aU,10,none⟩=some (.slice nv mo.length mX):=(af bh.out 10).trans rfl
                     have agl:wc.cell? ⟨aU,11,none⟩=some (.slice nQ mD.length ny):=(af bh.out 11).trans rfl
                     have agm:wc.cell? ⟨aU,12,none⟩=some (.int .i64 oO):=(af bh.out 12).trans rfl
                     have apW:=aa bh.out 0
                     have apX:=aa bh.out 1
                     have apY:=aa bh.out 2
                     have apZ:=aa bh.out 3
                     have ap0:=aa bh.out 4
                     have ap1:=aa bh.out 5
                     have ap2:=aa bh.out 6
                     have ap3:=aa bh.out 7
                     have ap4:=aa bh.out 8
                     have ap5:=aa bh.out 9
                     have agn:=aa bh.out 10
                     have ago:=aa bh.out 11
                     have agp:=aa bh.out 12
                     have aED:=cR.out
                     have aEE:=ia.out
                     have ap6:wc.cell? ⟨bA,0,none⟩=some (.int .i64 gy):=(af aV.out 0).trans rfl
                     have ap7:wc.cell? ⟨bA,1,none⟩=some (.bool gD):=(af aV.out 1).trans rfl
                     have ap8:wc.cell? ⟨bA,2,none⟩=some (.slice fy eA.length fA):=(af aV.out 2).trans rfl
                     have ap9:wc.cell? ⟨bA,3,none⟩=some (.string gW):=(af aV.out 3).trans rfl
                     have aqa:wc.cell? ⟨bA,4,none⟩=some (.string ig):=(af aV.out 4).trans rfl
                     have aqb:wc.cell? ⟨bA,5,none⟩=some (.bool iq):=(af aV.out 5).trans rfl
                     have aqc:wc.cell? ⟨bA,6,none⟩=some (.slice (some ⟨lu,0,none⟩) iA.length fJ):=(af aV.out 6).trans rfl
                     have aqd:wc.cell? ⟨bA,7,none⟩=some (.slice fS eG.length fT):=(af aV.out 7).trans rfl
                     have aqe:wc.cell? ⟨bA,8,none⟩=some (.int .i64 (wrap64 (a2))):=(af aV.out 8).trans rfl
                     have aqf:=aa aV.out 0
                     have aqg:=aa aV.out 1
                     have aqh:=aa aV.out 2
                     have aqi:=aa aV.out 3
                     have aqj:=aa aV.out 4
                     have aqk:=aa aV.out 5
                     have aql:=aa aV.out 6
                     have aqm:=aa aV.out 7
                     have aqn:=aa aV.out 8
                     go_wp2
                     go_ret
                     exact ⟨by rfl,aD⟩
                  ·rw [if_neg Kv] at H
                   have afe:=beq_eq_false_iff_ne.mpr Kv
                   have aff:=bne_iff_ne.mpr Kv
                   have H':=ah.mk H
                   clear H
                   have aEF:=mN.out
                   have aEG:=fK.out
                   have aEH:=kN.out
                   have aEI:=fL.out
                   have aqo:wc.cell? ⟨aU,0,none⟩=some (.int .u8 jP):=(af bh.out 0).trans rfl
                   have aqp:wc.cell? ⟨aU,1,none⟩=some (.int .i64 lf):=(af bh.out 1).trans rfl
                   have aqq:wc.cell? ⟨aU,2,none⟩=some (.int .i64 lJ):=(af bh.out 2).trans rfl
                   have aqr:wc.cell? ⟨aU,3,none⟩=some (.int .i64 lg):=(af bh.out 3).trans rfl
                   have aqs:wc.cell? ⟨aU,4,none⟩=some (.int .i64 mh):=(af bh.out 4).trans rfl
                   have aqt:wc.cell? ⟨aU,5,none⟩=some (.bool mB):=(af bh.out 5).trans rfl
                   have aqu:wc.cell? ⟨aU,6,none⟩=some (.slice mC kX.length mj):=(af bh.out 6).trans rfl
                   have aqv:wc.cell? ⟨aU,7,none⟩=some (.string mQ):=(af bh.out 7).trans rfl
                   have aqw:wc.cell? ⟨aU,8,none⟩=some (.string mW):=(af bh.out 8).trans rfl
                   have aqx:wc.cell? ⟨aU,9,none⟩=some (.bool nu):=(af bh.out 9).trans rfl
                   have agq:wc.cell? ⟨aU,10,none⟩=some (.slice nv mo.length mX):=(af bh.out 10).trans rfl
                   have agr:wc.cell? ⟨aU,11,none⟩=some (.slice nQ mD.length ny):=(af bh.out 11).trans rfl
                   have ags:wc.cell? ⟨aU,12,none⟩=some (.int .i64 oO):=(af bh.out 12).trans rfl
                   have aqy:=aa bh.out 0
                   have aqz:=aa bh.out 1
                   have aqA:=aa bh.out 2
                   have aqB:=aa bh.out 3
                   have aqC:=aa bh.out 4
                   have aqD:=aa bh.out 5
                   have aqE:=aa bh.out 6
                   have aqF:=aa bh.out 7
                   have aqG:=aa bh.out 8
                   have aqH:=aa bh.out 9
                   have agt:=aa bh.out 10
                   have agu:=aa bh.out 11
                   have agv:=aa bh.out 12
                   go_wp2
                   go_roundg Ku
                   case measure=>have:=sw.out;have:=O3.out;have:=HK3.out;have:=Ug.out;have:=acQ.out;have:=anv.out;omega
                   case rel=>exact ⟨(kG),((wrap64 (((bg ((av bz 0).f2) 0).f3) + kG))),(wrap64 (uv + 1)),(oZ),(nY),(.slice rS nY.length rT),(by rfl),(by rfl),(by rfl),H',⟨by have:=sw.out;have:=O3.out;have:=HK3.out;have:=Ug.out;have:=acQ.out;have:=anv.out;omega⟩,⟨lB⟩,⟨by exact Kd.cu gX.out (fun _ hk=>trivial)⟩,⟨by exact Kd.cu fX.out (fun _ hk=>trivial)⟩,⟨by exact Kd.cu gY.out (fun _ hk=>trivial)⟩,⟨by exact Kd.kB cX.out (fun _ hk=>⟨hk.1,⟨hk.2.1,⟨hk.2.2.1,hk.2.2.2.2.2.2⟩⟩⟩)⟩,⟨gI⟩,⟨jQ⟩,⟨aD⟩⟩
         ·rw [if_neg Ic] at H
          have MN:=decide_eq_false Ic
          clear Ic
          obtain rfl:=Option.some.inj H
          go_wp2
          go_ret
          exact ⟨by rfl,aD⟩
def aq.Pure:Prop:=∀ (l0:List Int) (a1:Int) (a2:Int) (l3:List Int),l0.length≤maxLen→l0.length * 1≤140737488351232→(∀ x∈l0,(Lit.int .u8 x).wf=true)→(Lit.int .u16 a1).wf=true→(Lit.int .u32 a2).wf=true→l3.length≤maxLen→l3.length * 1≤140737488351232→(∀ x∈l3,(Lit.int .u8 x).wf=true)→∃ k,aq.f k l0 a1 a2 l3=some true
theorem aq.walk (P:aq.Pure) (a0:Option Addr) (IZ I0:Nat) (z0:List Int) (a1:Int) (a2:Int) (a3:Option Addr) (I1 I2:Nat) (z3:List Int) (w:World) (w0:(a0=none∧IZ=0∧I0=0∧z0= [])∨∃ x,a0=some x∧IZ≤I0∧I0≤maxLen∧z0.length=I0∧(∀ i,i < z0.length→w.cell? (x.add i)=some (.int .u8 (z0.getD i 0)))∧∀ n∈z0,(Lit.int .u8 n).wf=true) (y0:IZ * 1≤140737488351232) (w1:(Lit.int .u16 a1).wf=true) (w2:(Lit.int .u32 a2).wf=true) (w3:(a3=none∧I1=0∧I2=0∧z3= [])∨∃ x,a3=some x∧I1≤I2∧I2≤maxLen∧z3.length=I2∧(∀ i,i < z3.length→w.cell? (x.add i)=some (.int .u8 (z3.getD i 0)))∧∀ n∈z3,(Lit.int .u8 n).wf=true) (y3:I1 * 1≤140737488351232) (hG:bp w):
 Calls Tryz.prog 3 #[.slice a0 IZ I0,.int .u16 a1,.int .u32 a2,.slice a3 I1 I2] w fun e w'=>e= .returned (.bool true)∧Below w.heap.size w w':=by
 obtain ⟨l0,rfl,lN,hm0,hw0,hc0⟩:=gf.QD w0
 obtain ⟨l3,rfl,hr3,hm3,hw3,hc3⟩:=gf.QD w3
 obtain ⟨k,h⟩:=P l0 a1 a2 l3 hm0 y0 hw0 w1 w2 hm3 y3 hw3
 refine (aq.calls k _ _ l0 a1 a2 _ _ l3 true w (Kd.wT (d:=(0:Int)) (h1:=fun _ =>rfl) lN) hc0 (Kd.wT (d:=(0:Int)) (h1:=fun _ =>rfl) hr3) hc3 hG h).mono ?_
 rintro e w' ⟨rfl,hd⟩
 exact ⟨rfl,hd⟩
end Go.Proofs.YtbjjaaodfbjkfaaGreatDoor.qb
