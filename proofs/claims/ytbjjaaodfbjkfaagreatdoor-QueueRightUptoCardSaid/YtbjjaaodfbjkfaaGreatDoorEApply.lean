import Derived.Test.YtbjjaaodfbjkfaaGreatDoorEQue8
import Derived.Test.YtbjjaaodfbjkfaaGreatDoorQQux11
namespace Go.Proofs.YtbjjaaodfbjkfaaGreatDoor.mN
open Go.RowKit Go.Proofs.ak.bQ Go.Proofs.ak.dA Go.Proofs.ak.cX
set_option linter.unusedVariables false
set_option linter.unusedSimpArgs false
def cC.end (n:Int) (ms:List Ml):Bool×Int×List Ml→Int×List Ml×Int
 |(true,n',ms')=>(n',ms',0)
 |(false,_,_)=>(n,ms,220)
def cC.f (k:Nat) (bf:Int) (aD:List Ml) (iL jh Az iU iM:Int) (iN:Bool) (iI:List ByteArray) (yc jA:ByteArray) (yf:Bool) (pg:List jz) (pq:List Int) (qW:Int):Option (Int×List Ml×Int):=
 (cy.f k bf aD).bind fun q=>(cK.f k iL jh Az iU iM iN iI yc jA yf pg pq qW).bind fun ok=>
   if ok=true then (nO.f q.1 q.2 iL jh Az iU ⟨iM,⟨iN,iI,⟨yc,jA,yf⟩⟩,pg,pq,qW⟩).bind fun r=>some (cC.end q.1 q.2 r) else some (q.1,q.2,220)
theorem cC.mono:∀ bf aD iL jh Az iU iM iN iI yc jA yf pg pq qW k,eY (cC.f k bf aD iL jh Az iU iM iN iI yc jA yf pg pq qW) (cC.f (k + 1) bf aD iL jh Az iU iM iN iI yc jA yf pg pq qW):=by
 intro bf aD iL jh Az iU iM iN iI yc jA yf pg pq qW k
 unfold cC.f
 exact eY.bind (cy.mono _ _ _) fun _ =>eY.bind (cK.mono _ _ _ _ _ _ _ _ _ _ _ _ _ _) fun _ =>eY.refl _
theorem QW.start {w1 w2:World} {n:Int} {v:Value} {ms:List Ml} (hb:Below w1.heap.size w1 w2) (hS:Kd.S DT 34 w2 w1.heap.size (fun _ =>True) v ms):
 QW w1 (w2.alloc (.cells #[.int .i64 n,v] 40)) w2.heap.size n v ms:=⟨bW hb _,iE w2 _,hb.size,Kd.Nh hS _⟩
theorem Kr {w1 W:World} {g1 g2 g3:Nat} {a0:Int} {A:Option Addr} {l c:Nat} {cs:Array Value} (hb:Below w1.heap.size w1 W)
 (h1:w1.heap[g1]? =some (.cells #[.int .i64 a0,.slice A l c] 40 (0,0))) (h2:w1.heap[g2]? =some (.cells cs 46 (0,0))) (h3:w1.heap[g3]? =some (.cells #[.int .i64 0,.slice none 0 0] 40 (0,0))):
 (W.cell? ⟨g1,0,none⟩=some (.int .i64 a0)∧W.cell? ⟨g1,1,none⟩=some (.slice A l c)∧W.cell? ⟨g3,0,none⟩=some (.int .i64 0)∧W.cell? ⟨g3,1,none⟩=some (.slice none 0 0)∧W.frozen? ⟨g3,0,none⟩=false∧W.frozen? ⟨g3,1,none⟩=false∧W.heap[g3]? =some (.cells #[.int .i64 0,.slice none 0 0] 40 (0,0)))∧∀ j,W.cell? ⟨g2,j,none⟩=cs[j]? :=
 ⟨⟨(af (az h1 hb) 0).trans rfl,(af (az h1 hb) 1).trans rfl,(af (az h3 hb) 0).trans rfl,(af (az h3 hb) 1).trans rfl,aa (az h3 hb) 0,aa (az h3 hb) 1,az h3 hb⟩,fun j=>af (az h2 hb) j⟩
set_option maxRecDepth 100000 in
set_option maxHeartbeats 8000000 in
theorem cC.calls (k:Nat) (bf:Int) (iQ:Option Addr) (gJ:Nat) (aD:List Ml) (iL jh Az iU iM:Int) (iN:Bool) (lO:Option Addr) (lQ:Nat) (iI:List ByteArray) (yc jA:ByteArray) (yf:Bool) (D5:Option Addr) (D6:Nat) (pg:List jz) (D7:Option Addr) (D8:Nat) (pq:List Int) (qW:Int) (r1:Int) (r2:List Ml) (r3:Int) (w:World)
 (nR:Kd.C DT w iQ aD.length aD) (nS:aD.length≤gJ) (zB:Kd.C Kd.string w lO iI.length iI) (zC:iI.length≤lQ) (LZ:Kd.C tq w D5 pg.length pg) (L1:pg.length≤D6) (L8:Kd.C (Kd.int .u8) w D7 pq.length pq) (Ma:pq.length≤D8) (hG:bp w)
 (h:cC.f k bf aD iL jh Az iU iM iN iI yc jA yf pg pq qW=some (r1,r2,r3)):
 Calls Tryz.prog 15 #[.agg #[.int .i64 bf,.slice iQ aD.length gJ],.agg #[.int .u8 iL,.int .i64 jh,.int .i64 Az,.int .i64 iU,.int .i64 iM,.bool iN,.slice lO iI.length lQ,.string yc,.string jA,.bool yf,.slice D5 pg.length D6,.slice D7 pq.length D8,.int .i64 qW]] w fun e w'=>∃ RG:Value,e= .returned (.tuple #[.agg #[.int .i64 r1,RG],.int .i64 r3])∧Kd.S DT 34 w' w.heap.size (fun _ =>True) RG r2∧Below w.heap.size w w':=by
 have hu1:=Tryz.underlying46
 have hu2:=Tryz.underlying40
 unfold cC.f at h
 obtain ⟨⟨n,ms⟩,A1,h⟩:=Option.bind_eq_some_iff.mp h
 obtain ⟨ok,A2,h⟩:=Option.bind_eq_some_iff.mp h
 dsimp only at h
 obtain ⟨m,hm⟩:∃ m:Ml,m=⟨iM,⟨iN,iI,⟨yc,jA,yf⟩⟩,pg,pq,qW⟩:=⟨_,rfl⟩
 have HC:=ah.mk (fun W (hb:Below w.heap.size w W)=>cy.calls k bf iQ gJ aD n ms W (Kd.bD nR hb) nS A1)
 have HR:=ah.mk (fun W (hb:Below w.heap.size w W)=>cK.calls k iL jh Az iU iM iN lO lQ iI yc jA yf D5 D6 pg D7 D8 pq qW ok W (Kd.bD zB hb) zC (Kd.bD LZ hb) L1 (Kd.bD L8 hb) Ma (hG.below hb) A2)
 have HM:=ah.mk (fun W (hb:Below w.heap.size w W)=>(show MR W ⟨iM,⟨iN,iI,⟨yc,jA,yf⟩⟩,pg,pq,qW⟩ lO lQ D5 D6 D7 D8 from ⟨Kd.bD zB hb,zC,Kd.bD LZ hb,L1,Kd.bD L8 hb,Ma⟩))
 clear nR nS zB zC LZ L1 L8 Ma hG A1 A2
 obtain ⟨w1,hw1⟩:∃ w1,w1=((w.alloc (.cells #[.int .i64 bf,.slice iQ aD.length gJ] 40)).alloc (.cells #[.int .u8 iL,.int .i64 jh,.int .i64 Az,.int .i64 iU,.int .i64 iM,.bool iN,.slice lO iI.length lQ,.string yc,.string jA,.bool yf,.slice D5 pg.length D6,.slice D7 pq.length D8,.int .i64 qW] 46)).alloc (.cells #[.int .i64 0,.slice none 0 0] 40):=⟨_,rfl⟩
 have mU:=ah.mk (show Below w.heap.size w w1 by rw [hw1];exact bW (bW (bW (Below.refl _ _) _) _) _)
 have HF:=ah.mk (fun W (hb:Below w1.heap.size w1 W)=>Kr (g1:=w.heap.size) (g2:=w.heap.size + 1) (g3:=w.heap.size + 1 + 1) hb (by rw [hw1];exact gG (gG (iE w _) _) _) (by rw [hw1];have:=iE (w.alloc (.cells #[.int .i64 bf,.slice iQ aD.length gJ] 40)) (.cells #[.int .u8 iL,.int .i64 jh,.int .i64 Az,.int .i64 iU,.int .i64 iM,.bool iN,.slice lO iI.length lQ,.string yc,.string jA,.bool yf,.slice D5 pg.length D6,.slice D7 pq.length D8,.int .i64 qW] 46);rw [show (w.alloc (.cells #[.int .i64 bf,.slice iQ aD.length gJ] 40)).heap.size=w.heap.size + 1 by simp] at this;exact gG this _) (by rw [hw1];have:=iE ((w.alloc (.cells #[.int .i64 bf,.slice iQ aD.length gJ] 40)).alloc (.cells #[.int .u8 iL,.int .i64 jh,.int .i64 Az,.int .i64 iU,.int .i64 iM,.bool iN,.slice lO iI.length lQ,.string yc,.string jA,.bool yf,.slice D5 pg.length D6,.slice D7 pq.length D8,.int .i64 qW] 46)) (.cells #[.int .i64 0,.slice none 0 0] 40);simpa using this))
 have uz:=Lib.hid hw1
 have HZ:=Lib.hid (show w1.heap.size=w.heap.size + 1 + 1 + 1 by rw [hw1];simp)
 clear hw1 hm
 cases ok with
 |false=>
  rw [if_neg bB] at h
  simp only [Option.some.injEq,Prod.mk.injEq] at h
  obtain ⟨rfl,rfl,rfl⟩:=h
  go_enter Tryz.func15,Tryz.ntmps15
  go_wp2_with fail
  rw [← uz.out]
  refine (HC.out _ mU.out).mono ?_
  rintro e w2 ⟨RG,rfl,TR,hb2⟩
  obtain ⟨Av,cv,rfl⟩:=Kd.iF TR
  have HQ3:=ah.mk (QW.start (n:=n) hb2 TR)
  have hz:=HZ.out
  have hn1:w2.heap.size≠w.heap.size:=by have:=hb2.size;omega
  have hn2:w2.heap.size≠w.heap.size + 1:=by have:=hb2.size;omega
  have aiK:=Ne.symm hn1
  have aiL:=Ne.symm hn2
  clear hz
  obtain ⟨⟨q0a,q1a,r0a,r1a,z0a,z1a,-⟩,fc⟩:=HF.out _ (bW hb2 (.cells #[.int .i64 n,.slice Av ms.length cv] 40));have c0a:=(fc 0).trans rfl;have c1a:=(fc 1).trans rfl;have c2a:=(fc 2).trans rfl;have c3a:=(fc 3).trans rfl;have c4a:=(fc 4).trans rfl;have c5a:=(fc 5).trans rfl;have c6a:=(fc 6).trans rfl;have c7a:=(fc 7).trans rfl;have c8a:=(fc 8).trans rfl;have c9a:=(fc 9).trans rfl;have aiM:=(fc 10).trans rfl;have aiN:=(fc 11).trans rfl;have aiO:=(fc 12).trans rfl;clear fc
  clear TR hb2
  go_wp2_with (first
   |(go_at_call 58;refine (HR.out _ ?D9).mono ?_;(case D9=>exact cj mU.out mU.out.size HQ3.out.bl);rintro e w4 ⟨rfl,hb4⟩;have TS:=ah.mk (HQ3.out.below hb4);clear hb4;obtain ⟨⟨q0b,q1b,r0b,r1b,z0b,z1b,-⟩,fc⟩:=HF.out _ (TS.out.bl);clear fc)
   |(go_at_call 57;refine (HC.out _ ?TT).mono ?_;(case TT=>exact cj mU.out mU.out.size TS.out.bl);rintro e w6 ⟨QI,rfl,RI,JD⟩;obtain ⟨A6_,c6_,rfl⟩:=Kd.iF RI;have EB:=ah.mk (cj TS.out.bl (TS.out.bl).size JD);have UJ:=ah.mk (Kd.pQ RI (cj mU.out mU.out.size TS.out.bl).size);clear RI JD;obtain ⟨⟨q0d,q1d,r0d,r1d,z0d,z1d,-⟩,fc⟩:=HF.out _ (EB.out);clear fc))
  have HT:=HF.out _ EB.out
  refine bodyPost_ret (tZ rfl _ _ (w.heap.size + 1 + 1) 40 #[.int .i64 n,(.slice A6_ ms.length c6_)] (0,0) _ rfl (aZ (cs:=#[.int .i64 n,.slice none 0 0]) (aZ (cs:=#[.int .i64 0,.slice none 0 0]) HT.1.2.2.2.2.2.2 0 _ rfl) 1 _ rfl) Tryz.underlying40 rfl aq) rfl ?_
  exact ⟨_,rfl,Kd.Bl (Kd.Bl UJ.out HT.1.2.2.2.2.2.2 bB 0 _) (aZ (cs:=#[.int .i64 0,.slice none 0 0]) HT.1.2.2.2.2.2.2 0 (.int .i64 n) rfl) bB 1 _,cG (cG (cj mU.out mU.out.size EB.out) z8) z8⟩
 |true=>
  rw [if_pos rfl] at h
  obtain ⟨⟨b,n',ms'⟩,A3,h⟩:=Option.bind_eq_some_iff.mp h
  have h:=Option.some.inj h
  have HFI:=ah.mk (fun (W:World) (gq:Nat) (v:Value) (hq:QW w1 W gq n v ms)=>nO.calls hq (HM.out _ mU.out) A3)
  clear A3 HM
  cases b with
  |false=>
   simp only [cC.end,Prod.mk.injEq] at h
   obtain ⟨rfl,rfl,rfl⟩:=h
   go_enter Tryz.func15,Tryz.ntmps15
   go_wp2_with fail
   rw [← uz.out]
   refine (HC.out _ mU.out).mono ?_
   rintro e w2 ⟨RG,rfl,TR,hb2⟩
   obtain ⟨Av,cv,rfl⟩:=Kd.iF TR
   have HQ3:=ah.mk (QW.start (n:=n) hb2 TR)
   have hz:=HZ.out
   have hn1:w2.heap.size≠w.heap.size:=by have:=hb2.size;omega
   have hn2:w2.heap.size≠w.heap.size + 1:=by have:=hb2.size;omega
   have aiK:=Ne.symm hn1
   have aiL:=Ne.symm hn2
   clear hz
   obtain ⟨⟨q0a,q1a,r0a,r1a,z0a,z1a,-⟩,fc⟩:=HF.out _ (bW hb2 (.cells #[.int .i64 n,.slice Av ms.length cv] 40));have c0a:=(fc 0).trans rfl;have c1a:=(fc 1).trans rfl;have c2a:=(fc 2).trans rfl;have c3a:=(fc 3).trans rfl;have c4a:=(fc 4).trans rfl;have c5a:=(fc 5).trans rfl;have c6a:=(fc 6).trans rfl;have c7a:=(fc 7).trans rfl;have c8a:=(fc 8).trans rfl;have c9a:=(fc 9).trans rfl;have aiM:=(fc 10).trans rfl;have aiN:=(fc 11).trans rfl;have aiO:=(fc 12).trans rfl;clear fc
   clear TR hb2
   go_wp2_with (first
    |(go_at_call 58;refine (HR.out _ ?D9).mono ?_;(case D9=>exact cj mU.out mU.out.size HQ3.out.bl);rintro e w4 ⟨rfl,hb4⟩;have TS:=ah.mk (HQ3.out.below hb4);clear hb4;obtain ⟨⟨q0b,q1b,r0b,r1b,z0b,z1b,-⟩,fc⟩:=HF.out _ (TS.out.bl);have c0b:=(fc 0).trans rfl;have c1b:=(fc 1).trans rfl;have c2b:=(fc 2).trans rfl;have c3b:=(fc 3).trans rfl;have c4b:=(fc 4).trans rfl;have c5b:=(fc 5).trans rfl;have c6b:=(fc 6).trans rfl;have c7b:=(fc 7).trans rfl;have c8b:=(fc 8).trans rfl;have c9b:=(fc 9).trans rfl;have axt:=(fc 10).trans rfl;have axu:=(fc 11).trans rfl;have axv:=(fc 12).trans rfl;clear fc)
    |(go_at_call 59;refine (HFI.out _ _ _ TS.out).mono ?_;rintro e w5 ⟨rfl,tL,hq5⟩;have TU:=ah.mk tL;have HV5:=ah.mk hq5;clear tL hq5;obtain ⟨⟨q0e,q1e,r0e,r1e,z0e,z1e,-⟩,fc⟩:=HF.out _ (TU.out);clear fc)
    |(go_at_call 57;refine (HC.out _ ?TT).mono ?_;(case TT=>exact cj mU.out mU.out.size TU.out);rintro e w6 ⟨QI,rfl,RI,JD⟩;obtain ⟨A6_,c6_,rfl⟩:=Kd.iF RI;have EB:=ah.mk (cj TU.out (TU.out).size JD);have UJ:=ah.mk (Kd.pQ RI (cj mU.out mU.out.size TU.out).size);clear RI JD;obtain ⟨⟨q0d,q1d,r0d,r1d,z0d,z1d,-⟩,fc⟩:=HF.out _ (EB.out);clear fc))
   have HT:=HF.out _ EB.out
   refine bodyPost_ret (tZ rfl _ _ (w.heap.size + 1 + 1) 40 #[.int .i64 n,(.slice A6_ ms.length c6_)] (0,0) _ rfl (aZ (cs:=#[.int .i64 n,.slice none 0 0]) (aZ (cs:=#[.int .i64 0,.slice none 0 0]) HT.1.2.2.2.2.2.2 0 _ rfl) 1 _ rfl) Tryz.underlying40 rfl aq) rfl ?_
   exact ⟨_,rfl,Kd.Bl (Kd.Bl UJ.out HT.1.2.2.2.2.2.2 bB 0 _) (aZ (cs:=#[.int .i64 0,.slice none 0 0]) HT.1.2.2.2.2.2.2 0 (.int .i64 n) rfl) bB 1 _,cG (cG (cj mU.out mU.out.size EB.out) z8) z8⟩
  |true=>
   simp only [cC.end,Prod.mk.injEq] at h
   obtain ⟨rfl,rfl,rfl⟩:=h
   go_enter Tryz.func15,Tryz.ntmps15
   go_wp2_with fail
   rw [← uz.out]
   refine (HC.out _ mU.out).mono ?_
   rintro e w2 ⟨RG,rfl,TR,hb2⟩
   obtain ⟨Av,cv,rfl⟩:=Kd.iF TR
   have HQ3:=ah.mk (QW.start (n:=n) hb2 TR)
   have hz:=HZ.out
   have hn1:w2.heap.size≠w.heap.size:=by have:=hb2.size;omega
   have hn2:w2.heap.size≠w.heap.size + 1:=by have:=hb2.size;omega
   have aiK:=Ne.symm hn1
   have aiL:=Ne.symm hn2
   clear hz
   obtain ⟨⟨q0a,q1a,r0a,r1a,z0a,z1a,-⟩,fc⟩:=HF.out _ (bW hb2 (.cells #[.int .i64 n,.slice Av ms.length cv] 40));have c0a:=(fc 0).trans rfl;have c1a:=(fc 1).trans rfl;have c2a:=(fc 2).trans rfl;have c3a:=(fc 3).trans rfl;have c4a:=(fc 4).trans rfl;have c5a:=(fc 5).trans rfl;have c6a:=(fc 6).trans rfl;have c7a:=(fc 7).trans rfl;have c8a:=(fc 8).trans rfl;have c9a:=(fc 9).trans rfl;have aiM:=(fc 10).trans rfl;have aiN:=(fc 11).trans rfl;have aiO:=(fc 12).trans rfl;clear fc
   clear TR hb2
   go_wp2_with (first
    |(go_at_call 58;refine (HR.out _ ?D9).mono ?_;(case D9=>exact cj mU.out mU.out.size HQ3.out.bl);rintro e w4 ⟨rfl,hb4⟩;have TS:=ah.mk (HQ3.out.below hb4);clear hb4;obtain ⟨⟨q0b,q1b,r0b,r1b,z0b,z1b,-⟩,fc⟩:=HF.out _ (TS.out.bl);have c0b:=(fc 0).trans rfl;have c1b:=(fc 1).trans rfl;have c2b:=(fc 2).trans rfl;have c3b:=(fc 3).trans rfl;have c4b:=(fc 4).trans rfl;have c5b:=(fc 5).trans rfl;have c6b:=(fc 6).trans rfl;have c7b:=(fc 7).trans rfl;have c8b:=(fc 8).trans rfl;have c9b:=(fc 9).trans rfl;have axt:=(fc 10).trans rfl;have axu:=(fc 11).trans rfl;have axv:=(fc 12).trans rfl;clear fc)
    |(go_at_call 59;refine (HFI.out _ _ _ TS.out).mono ?_;rintro e w5 ⟨rfl,tL,hq5⟩;have TU:=ah.mk tL;have HV5:=ah.mk hq5;clear tL hq5;obtain ⟨v5_,hv5⟩:=HV5.out rfl;obtain ⟨A5_,c5_,rfl⟩:=Kd.iF hv5.hs;have HQ5:=ah.mk hv5;have p0:w5.cell? ⟨w2.heap.size,0,none⟩=some (.int .i64 n'):=(af hv5.hq 0).trans rfl;have p1:w5.cell? ⟨w2.heap.size,1,none⟩=some (.slice A5_ ms'.length c5_):=(af hv5.hq 1).trans rfl;clear hv5;obtain ⟨⟨q0e,q1e,r0e,r1e,z0e,z1e,-⟩,fc⟩:=HF.out _ (TU.out);clear fc))
   have HT:=HF.out _ TU.out
   refine bodyPost_ret (tZ rfl _ _ (w.heap.size + 1 + 1) 40 #[.int .i64 n',(.slice A5_ ms'.length c5_)] (0,0) _ rfl (aZ (cs:=#[.int .i64 n',.slice none 0 0]) (aZ (cs:=#[.int .i64 0,.slice none 0 0]) HT.1.2.2.2.2.2.2 0 _ rfl) 1 _ rfl) Tryz.underlying40 rfl aq) rfl ?_
   exact ⟨_,rfl,Kd.Bl (Kd.Bl (Kd.pQ HQ5.out.hs mU.out.size) HT.1.2.2.2.2.2.2 bB 0 _) (aZ (cs:=#[.int .i64 0,.slice none 0 0]) HT.1.2.2.2.2.2.2 0 (.int .i64 n') rfl) bB 1 _,cG (cG (cj mU.out mU.out.size TU.out) z8) z8⟩
end Go.Proofs.YtbjjaaodfbjkfaaGreatDoor.mN
