import Derived.Test.YtbjjaaodfbjkfaaGreatDoorEQue8
import Derived.Test.YtbjjaaodfbjkfaaGreatDoorQQux11
namespace Go.Proofs.YtbjjaaodfbjkfaaGreatDoor.mU
open Go.RowKit Go.Proofs.ak.bR Go.Proofs.ak.dz Go.Proofs.ak.cZ
set_option linter.unusedVariables false
set_option linter.unusedSimpArgs false
def cL.end (n:Int) (ms:List Ml):Bool×Int×List Ml→Int×List Ml×Int
 |(true,n',ms')=>(n',ms',0)
 |(false,_,_)=>(n,ms,220)
def cL.f (k:Nat) (bg:Int) (aI:List Ml) (gz gF AY iX iN:Int) (iO:Bool) (iK:List ByteArray) (yS jN:ByteArray) (yT:Bool) (pH:List jM) (pI:List Int) (qW:Int):Option (Int×List Ml×Int):=
 (cx.f k bg aI).bind fun q=>(cK.f k gz gF AY iX iN iO iK yS jN yT pH pI qW).bind fun ok=>
   if ok=true then (nT.f q.1 q.2 gz gF AY iX ⟨iN,⟨iO,iK,⟨yS,jN,yT⟩⟩,pH,pI,qW⟩).bind fun r=>some (cL.end q.1 q.2 r) else some (q.1,q.2,220)
theorem cL.mono:∀ bg aI gz gF AY iX iN iO iK yS jN yT pH pI qW k,eZ (cL.f k bg aI gz gF AY iX iN iO iK yS jN yT pH pI qW) (cL.f (k + 1) bg aI gz gF AY iX iN iO iK yS jN yT pH pI qW):=by
 intro bg aI gz gF AY iX iN iO iK yS jN yT pH pI qW k
 unfold cL.f
 exact eZ.bind (cx.mono _ _ _) fun _ =>eZ.bind (cK.mono _ _ _ _ _ _ _ _ _ _ _ _ _ _) fun _ =>eZ.refl _
theorem QW.start {w1 w2:World} {n:Int} {v:Value} {ms:List Ml} (hb:Below w1.heap.size w1 w2) (hS:Kd.S KW 34 w2 w1.heap.size (fun _ =>True) v ms):
 QW w1 (w2.alloc (.cells #[.int .i64 n,v] 40)) w2.heap.size n v ms:=⟨b9 hb _,jg w2 _,hb.size,Kd.Oa hS _⟩
theorem K9 {w1 W:World} {g1 g2 g3:Nat} {a0:Int} {A:Option Addr} {l c:Nat} {cs:Array Value} (hb:Below w1.heap.size w1 W)
 (h1:w1.heap[g1]? =some (.cells #[.int .i64 a0,.slice A l c] 40 (0,0))) (h2:w1.heap[g2]? =some (.cells cs 46 (0,0))) (h3:w1.heap[g3]? =some (.cells #[.int .i64 0,.slice none 0 0] 40 (0,0))):
 (W.cell? ⟨g1,0,none⟩=some (.int .i64 a0)∧W.cell? ⟨g1,1,none⟩=some (.slice A l c)∧W.cell? ⟨g3,0,none⟩=some (.int .i64 0)∧W.cell? ⟨g3,1,none⟩=some (.slice none 0 0)∧W.frozen? ⟨g3,0,none⟩=false∧W.frozen? ⟨g3,1,none⟩=false∧W.heap[g3]? =some (.cells #[.int .i64 0,.slice none 0 0] 40 (0,0)))∧∀ j,W.cell? ⟨g2,j,none⟩=cs[j]? :=
 ⟨⟨(af (aA h1 hb) 0).trans rfl,(af (aA h1 hb) 1).trans rfl,(af (aA h3 hb) 0).trans rfl,(af (aA h3 hb) 1).trans rfl,aa (aA h3 hb) 0,aa (aA h3 hb) 1,aA h3 hb⟩,fun j=>af (aA h2 hb) j⟩
set_option maxRecDepth 100000 in
set_option maxHeartbeats 8000000 in
theorem cL.calls (k:Nat) (bg:Int) (jk:Option Addr) (ia:Nat) (aI:List Ml) (gz gF AY iX iN:Int) (iO:Bool) (lU:Option Addr) (lV:Nat) (iK:List ByteArray) (yS jN:ByteArray) (yT:Bool) (En:Option Addr) (Eo:Nat) (pH:List jM) (Ep:Option Addr) (Er:Nat) (pI:List Int) (qW:Int) (r1:Int) (r2:List Ml) (r3:Int) (w:World)
 (nX:Kd.C KW w jk aI.length aI) (nY:aI.length≤ia) (zN:Kd.C Kd.string w lU iK.length iK) (zO:iK.length≤lV) (MO:Kd.C sM w En pH.length pH) (MP:pH.length≤Eo) (MQ:Kd.C (Kd.int .u8) w Ep pI.length pI) (MS:pI.length≤Er) (hG:bq w)
 (h:cL.f k bg aI gz gF AY iX iN iO iK yS jN yT pH pI qW=some (r1,r2,r3)):
 Calls Tryz.prog 15 #[.agg #[.int .i64 bg,.slice jk aI.length ia],.agg #[.int .u8 gz,.int .i64 gF,.int .i64 AY,.int .i64 iX,.int .i64 iN,.bool iO,.slice lU iK.length lV,.string yS,.string jN,.bool yT,.slice En pH.length Eo,.slice Ep pI.length Er,.int .i64 qW]] w fun e w'=>∃ SE:Value,e= .returned (.tuple #[.agg #[.int .i64 r1,SE],.int .i64 r3])∧Kd.S KW 34 w' w.heap.size (fun _ =>True) SE r2∧Below w.heap.size w w':=by
 have hu1:=Tryz.underlying46
 have hu2:=Tryz.underlying40
 unfold cL.f at h
 obtain ⟨⟨n,ms⟩,A1,h⟩:=Option.bind_eq_some_iff.mp h
 obtain ⟨ok,A2,h⟩:=Option.bind_eq_some_iff.mp h
 dsimp only at h
 obtain ⟨m,hm⟩:∃ m:Ml,m=⟨iN,⟨iO,iK,⟨yS,jN,yT⟩⟩,pH,pI,qW⟩:=⟨_,rfl⟩
 have HC:=ah.mk (fun W (hb:Below w.heap.size w W)=>cx.calls k bg jk ia aI n ms W (Kd.bQ nX hb) nY A1)
 have HR:=ah.mk (fun W (hb:Below w.heap.size w W)=>cK.calls k gz gF AY iX iN iO lU lV iK yS jN yT En Eo pH Ep Er pI qW ok W (Kd.bQ zN hb) zO (Kd.bQ MO hb) MP (Kd.bQ MQ hb) MS (hG.below hb) A2)
 have HM:=ah.mk (fun W (hb:Below w.heap.size w W)=>(show MR W ⟨iN,⟨iO,iK,⟨yS,jN,yT⟩⟩,pH,pI,qW⟩ lU lV En Eo Ep Er from ⟨Kd.bQ zN hb,zO,Kd.bQ MO hb,MP,Kd.bQ MQ hb,MS⟩))
 clear nX nY zN zO MO MP MQ MS hG A1 A2
 obtain ⟨w1,hw1⟩:∃ w1,w1=((w.alloc (.cells #[.int .i64 bg,.slice jk aI.length ia] 40)).alloc (.cells #[.int .u8 gz,.int .i64 gF,.int .i64 AY,.int .i64 iX,.int .i64 iN,.bool iO,.slice lU iK.length lV,.string yS,.string jN,.bool yT,.slice En pH.length Eo,.slice Ep pI.length Er,.int .i64 qW] 46)).alloc (.cells #[.int .i64 0,.slice none 0 0] 40):=⟨_,rfl⟩
 have qc:=ah.mk (show Below w.heap.size w w1 by rw [hw1];exact b9 (b9 (b9 (Below.refl _ _) _) _) _)
 have HF:=ah.mk (fun W (hb:Below w1.heap.size w1 W)=>K9 (g1:=w.heap.size) (g2:=w.heap.size + 1) (g3:=w.heap.size + 1 + 1) hb (by rw [hw1];exact gM (gM (jg w _) _) _) (by rw [hw1];have:=jg (w.alloc (.cells #[.int .i64 bg,.slice jk aI.length ia] 40)) (.cells #[.int .u8 gz,.int .i64 gF,.int .i64 AY,.int .i64 iX,.int .i64 iN,.bool iO,.slice lU iK.length lV,.string yS,.string jN,.bool yT,.slice En pH.length Eo,.slice Ep pI.length Er,.int .i64 qW] 46);rw [show (w.alloc (.cells #[.int .i64 bg,.slice jk aI.length ia] 40)).heap.size=w.heap.size + 1 by simp] at this;exact gM this _) (by rw [hw1];have:=jg ((w.alloc (.cells #[.int .i64 bg,.slice jk aI.length ia] 40)).alloc (.cells #[.int .u8 gz,.int .i64 gF,.int .i64 AY,.int .i64 iX,.int .i64 iN,.bool iO,.slice lU iK.length lV,.string yS,.string jN,.bool yT,.slice En pH.length Eo,.slice Ep pI.length Er,.int .i64 qW] 46)) (.cells #[.int .i64 0,.slice none 0 0] 40);simpa using this))
 have wm:=Lib.hid hw1
 have HZ:=Lib.hid (show w1.heap.size=w.heap.size + 1 + 1 + 1 by rw [hw1];simp)
 clear hw1 hm
 cases ok with
 |false=>
  rw [if_neg bC] at h
  simp only [Option.some.injEq,Prod.mk.injEq] at h
  obtain ⟨rfl,rfl,rfl⟩:=h
  go_enter Tryz.func15,Tryz.ntmps15
  go_wp2_with fail
  rw [← wm.out]
  refine (HC.out _ qc.out).mono ?_
  rintro e w2 ⟨SE,rfl,La,hb2⟩
  obtain ⟨Av,cv,rfl⟩:=Kd.iH La
  have HQ3:=ah.mk (QW.start (n:=n) hb2 La)
  have hz:=HZ.out
  have hn1:w2.heap.size≠w.heap.size:=by have:=hb2.size;omega
  have hn2:w2.heap.size≠w.heap.size + 1:=by have:=hb2.size;omega
  have aj0:=Ne.symm hn1
  have aj1:=Ne.symm hn2
  clear hz
  obtain ⟨⟨q0a,q1a,r0a,r1a,z0a,z1a,-⟩,fc⟩:=HF.out _ (b9 hb2 (.cells #[.int .i64 n,.slice Av ms.length cv] 40));have c0a:=(fc 0).trans rfl;have c1a:=(fc 1).trans rfl;have c2a:=(fc 2).trans rfl;have c3a:=(fc 3).trans rfl;have c4a:=(fc 4).trans rfl;have c5a:=(fc 5).trans rfl;have c6a:=(fc 6).trans rfl;have c7a:=(fc 7).trans rfl;have c8a:=(fc 8).trans rfl;have c9a:=(fc 9).trans rfl;have aj2:=(fc 10).trans rfl;have aj3:=(fc 11).trans rfl;have aj4:=(fc 12).trans rfl;clear fc
  clear La hb2
  go_wp2_with (first
   |(go_at_call 58;refine (HR.out _ ?Es).mono ?_;(case Es=>exact dL qc.out qc.out.size HQ3.out.bl);rintro e w4 ⟨rfl,hb4⟩;have Qp:=ah.mk (HQ3.out.below hb4);clear hb4;obtain ⟨⟨q0b,q1b,r0b,r1b,z0b,z1b,-⟩,fc⟩:=HF.out _ (Qp.out.bl);clear fc)
   |(go_at_call 57;refine (HC.out _ ?UO).mono ?_;(case UO=>exact dL qc.out qc.out.size Qp.out.bl);rintro e w6 ⟨RH,rfl,UQ,K8⟩;obtain ⟨A6_,c6_,rfl⟩:=Kd.iH UQ;have UR:=ah.mk (dL Qp.out.bl (Qp.out.bl).size K8);have ZA:=ah.mk (Kd.oF UQ (dL qc.out qc.out.size Qp.out.bl).size);clear UQ K8;obtain ⟨⟨q0d,q1d,r0d,r1d,z0d,z1d,-⟩,fc⟩:=HF.out _ (UR.out);clear fc))
  have HT:=HF.out _ UR.out
  refine bodyPost_ret (uj rfl _ _ (w.heap.size + 1 + 1) 40 #[.int .i64 n,(.slice A6_ ms.length c6_)] (0,0) _ rfl (aZ (cs:=#[.int .i64 n,.slice none 0 0]) (aZ (cs:=#[.int .i64 0,.slice none 0 0]) HT.1.2.2.2.2.2.2 0 _ rfl) 1 _ rfl) Tryz.underlying40 rfl aq) rfl ?_
  exact ⟨_,rfl,Kd.yg (Kd.yg ZA.out HT.1.2.2.2.2.2.2 bC 0 _) (aZ (cs:=#[.int .i64 0,.slice none 0 0]) HT.1.2.2.2.2.2.2 0 (.int .i64 n) rfl) bC 1 _,cC (cC (dL qc.out qc.out.size UR.out) Al) Al⟩
 |true=>
  rw [if_pos rfl] at h
  obtain ⟨⟨b,n',ms'⟩,A3,h⟩:=Option.bind_eq_some_iff.mp h
  have h:=Option.some.inj h
  have HFI:=ah.mk (fun (W:World) (gq:Nat) (v:Value) (hq:QW w1 W gq n v ms)=>nT.calls hq (HM.out _ qc.out) A3)
  clear A3 HM
  cases b with
  |false=>
   simp only [cL.end,Prod.mk.injEq] at h
   obtain ⟨rfl,rfl,rfl⟩:=h
   go_enter Tryz.func15,Tryz.ntmps15
   go_wp2_with fail
   rw [← wm.out]
   refine (HC.out _ qc.out).mono ?_
   rintro e w2 ⟨SE,rfl,La,hb2⟩
   obtain ⟨Av,cv,rfl⟩:=Kd.iH La
   have HQ3:=ah.mk (QW.start (n:=n) hb2 La)
   have hz:=HZ.out
   have hn1:w2.heap.size≠w.heap.size:=by have:=hb2.size;omega
   have hn2:w2.heap.size≠w.heap.size + 1:=by have:=hb2.size;omega
   have aj0:=Ne.symm hn1
   have aj1:=Ne.symm hn2
   clear hz
   obtain ⟨⟨q0a,q1a,r0a,r1a,z0a,z1a,-⟩,fc⟩:=HF.out _ (b9 hb2 (.cells #[.int .i64 n,.slice Av ms.length cv] 40));have c0a:=(fc 0).trans rfl;have c1a:=(fc 1).trans rfl;have c2a:=(fc 2).trans rfl;have c3a:=(fc 3).trans rfl;have c4a:=(fc 4).trans rfl;have c5a:=(fc 5).trans rfl;have c6a:=(fc 6).trans rfl;have c7a:=(fc 7).trans rfl;have c8a:=(fc 8).trans rfl;have c9a:=(fc 9).trans rfl;have aj2:=(fc 10).trans rfl;have aj3:=(fc 11).trans rfl;have aj4:=(fc 12).trans rfl;clear fc
   clear La hb2
   go_wp2_with (first
    |(go_at_call 58;refine (HR.out _ ?Es).mono ?_;(case Es=>exact dL qc.out qc.out.size HQ3.out.bl);rintro e w4 ⟨rfl,hb4⟩;have Qp:=ah.mk (HQ3.out.below hb4);clear hb4;obtain ⟨⟨q0b,q1b,r0b,r1b,z0b,z1b,-⟩,fc⟩:=HF.out _ (Qp.out.bl);have c0b:=(fc 0).trans rfl;have c1b:=(fc 1).trans rfl;have c2b:=(fc 2).trans rfl;have c3b:=(fc 3).trans rfl;have c4b:=(fc 4).trans rfl;have c5b:=(fc 5).trans rfl;have c6b:=(fc 6).trans rfl;have c7b:=(fc 7).trans rfl;have c8b:=(fc 8).trans rfl;have c9b:=(fc 9).trans rfl;have ayK:=(fc 10).trans rfl;have ayL:=(fc 11).trans rfl;have ayM:=(fc 12).trans rfl;clear fc)
    |(go_at_call 59;refine (HFI.out _ _ _ Qp.out).mono ?_;rintro e w5 ⟨rfl,tE,hq5⟩;have LV:=ah.mk tE;have HV5:=ah.mk hq5;clear tE hq5;obtain ⟨⟨q0e,q1e,r0e,r1e,z0e,z1e,-⟩,fc⟩:=HF.out _ (LV.out);clear fc)
    |(go_at_call 57;refine (HC.out _ ?UO).mono ?_;(case UO=>exact dL qc.out qc.out.size LV.out);rintro e w6 ⟨RH,rfl,UQ,K8⟩;obtain ⟨A6_,c6_,rfl⟩:=Kd.iH UQ;have UR:=ah.mk (dL LV.out (LV.out).size K8);have ZA:=ah.mk (Kd.oF UQ (dL qc.out qc.out.size LV.out).size);clear UQ K8;obtain ⟨⟨q0d,q1d,r0d,r1d,z0d,z1d,-⟩,fc⟩:=HF.out _ (UR.out);clear fc))
   have HT:=HF.out _ UR.out
   refine bodyPost_ret (uj rfl _ _ (w.heap.size + 1 + 1) 40 #[.int .i64 n,(.slice A6_ ms.length c6_)] (0,0) _ rfl (aZ (cs:=#[.int .i64 n,.slice none 0 0]) (aZ (cs:=#[.int .i64 0,.slice none 0 0]) HT.1.2.2.2.2.2.2 0 _ rfl) 1 _ rfl) Tryz.underlying40 rfl aq) rfl ?_
   exact ⟨_,rfl,Kd.yg (Kd.yg ZA.out HT.1.2.2.2.2.2.2 bC 0 _) (aZ (cs:=#[.int .i64 0,.slice none 0 0]) HT.1.2.2.2.2.2.2 0 (.int .i64 n) rfl) bC 1 _,cC (cC (dL qc.out qc.out.size UR.out) Al) Al⟩
  |true=>
   simp only [cL.end,Prod.mk.injEq] at h
   obtain ⟨rfl,rfl,rfl⟩:=h
   go_enter Tryz.func15,Tryz.ntmps15
   go_wp2_with fail
   rw [← wm.out]
   refine (HC.out _ qc.out).mono ?_
   rintro e w2 ⟨SE,rfl,La,hb2⟩
   obtain ⟨Av,cv,rfl⟩:=Kd.iH La
   have HQ3:=ah.mk (QW.start (n:=n) hb2 La)
   have hz:=HZ.out
   have hn1:w2.heap.size≠w.heap.size:=by have:=hb2.size;omega
   have hn2:w2.heap.size≠w.heap.size + 1:=by have:=hb2.size;omega
   have aj0:=Ne.symm hn1
   have aj1:=Ne.symm hn2
   clear hz
   obtain ⟨⟨q0a,q1a,r0a,r1a,z0a,z1a,-⟩,fc⟩:=HF.out _ (b9 hb2 (.cells #[.int .i64 n,.slice Av ms.length cv] 40));have c0a:=(fc 0).trans rfl;have c1a:=(fc 1).trans rfl;have c2a:=(fc 2).trans rfl;have c3a:=(fc 3).trans rfl;have c4a:=(fc 4).trans rfl;have c5a:=(fc 5).trans rfl;have c6a:=(fc 6).trans rfl;have c7a:=(fc 7).trans rfl;have c8a:=(fc 8).trans rfl;have c9a:=(fc 9).trans rfl;have aj2:=(fc 10).trans rfl;have aj3:=(fc 11).trans rfl;have aj4:=(fc 12).trans rfl;clear fc
   clear La hb2
   go_wp2_with (first
    |(go_at_call 58;refine (HR.out _ ?Es).mono ?_;(case Es=>exact dL qc.out qc.out.size HQ3.out.bl);rintro e w4 ⟨rfl,hb4⟩;have Qp:=ah.mk (HQ3.out.below hb4);clear hb4;obtain ⟨⟨q0b,q1b,r0b,r1b,z0b,z1b,-⟩,fc⟩:=HF.out _ (Qp.out.bl);have c0b:=(fc 0).trans rfl;have c1b:=(fc 1).trans rfl;have c2b:=(fc 2).trans rfl;have c3b:=(fc 3).trans rfl;have c4b:=(fc 4).trans rfl;have c5b:=(fc 5).trans rfl;have c6b:=(fc 6).trans rfl;have c7b:=(fc 7).trans rfl;have c8b:=(fc 8).trans rfl;have c9b:=(fc 9).trans rfl;have ayK:=(fc 10).trans rfl;have ayL:=(fc 11).trans rfl;have ayM:=(fc 12).trans rfl;clear fc)
    |(go_at_call 59;refine (HFI.out _ _ _ Qp.out).mono ?_;rintro e w5 ⟨rfl,tE,hq5⟩;have LV:=ah.mk tE;have HV5:=ah.mk hq5;clear tE hq5;obtain ⟨v5_,hv5⟩:=HV5.out rfl;obtain ⟨A5_,c5_,rfl⟩:=Kd.iH hv5.hs;have HQ5:=ah.mk hv5;have p0:w5.cell? ⟨w2.heap.size,0,none⟩=some (.int .i64 n'):=(af hv5.hq 0).trans rfl;have p1:w5.cell? ⟨w2.heap.size,1,none⟩=some (.slice A5_ ms'.length c5_):=(af hv5.hq 1).trans rfl;clear hv5;obtain ⟨⟨q0e,q1e,r0e,r1e,z0e,z1e,-⟩,fc⟩:=HF.out _ (LV.out);clear fc))
   have HT:=HF.out _ LV.out
   refine bodyPost_ret (uj rfl _ _ (w.heap.size + 1 + 1) 40 #[.int .i64 n',(.slice A5_ ms'.length c5_)] (0,0) _ rfl (aZ (cs:=#[.int .i64 n',.slice none 0 0]) (aZ (cs:=#[.int .i64 0,.slice none 0 0]) HT.1.2.2.2.2.2.2 0 _ rfl) 1 _ rfl) Tryz.underlying40 rfl aq) rfl ?_
   exact ⟨_,rfl,Kd.yg (Kd.yg (Kd.oF HQ5.out.hs qc.out.size) HT.1.2.2.2.2.2.2 bC 0 _) (aZ (cs:=#[.int .i64 0,.slice none 0 0]) HT.1.2.2.2.2.2.2 0 (.int .i64 n') rfl) bC 1 _,cC (cC (dL qc.out qc.out.size LV.out) Al) Al⟩
end Go.Proofs.YtbjjaaodfbjkfaaGreatDoor.mU
