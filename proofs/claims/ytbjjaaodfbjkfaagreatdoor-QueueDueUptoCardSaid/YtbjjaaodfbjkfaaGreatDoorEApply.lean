import Derived.Test.YtbjjaaodfbjkfaaGreatDoorEQue8
import Derived.Test.YtbjjaaodfbjkfaaGreatDoorQQux11
namespace Go.Proofs.YtbjjaaodfbjkfaaGreatDoor.ow
open Go.RowKit Go.Proofs.ak.bY Go.Proofs.ak.dU Go.Proofs.ak.dJ
set_option linter.unusedVariables false
set_option linter.unusedSimpArgs false
def cz.end (n:Int) (ms:List Ml):Bool×Int×List Ml→Int×List Ml×Int
 |(true,n',ms')=>(n',ms',0)
 |(false,_,_)=>(n,ms,220)
def cz.f (k:Nat) (bu:Int) (aT:List Ml) (jh jL BZ jB ji:Int) (jk:Bool) (je:List ByteArray) (zm ke:ByteArray) (zn:Bool) (qx:List jN) (qy:List Int) (sA:Int):Option (Int×List Ml×Int):=
 (cF.f k bu aT).bind fun q=>(cW.f k jh jL BZ jB ji jk je zm ke zn qx qy sA).bind fun ok=>
   if ok=true then (pG.f q.1 q.2 jh jL BZ jB ⟨ji,⟨jk,je,⟨zm,ke,zn⟩⟩,qx,qy,sA⟩).bind fun r=>some (cz.end q.1 q.2 r) else some (q.1,q.2,220)
theorem cz.mono:∀ bu aT jh jL BZ jB ji jk je zm ke zn qx qy sA k,fP (cz.f k bu aT jh jL BZ jB ji jk je zm ke zn qx qy sA) (cz.f (k + 1) bu aT jh jL BZ jB ji jk je zm ke zn qx qy sA):=by
 intro bu aT jh jL BZ jB ji jk je zm ke zn qx qy sA k
 unfold cz.f
 exact fP.bind (cF.mono _ _ _) fun _ =>fP.bind (cW.mono _ _ _ _ _ _ _ _ _ _ _ _ _ _) fun _ =>fP.refl _
theorem QW.start {w1 w2:World} {n:Int} {v:Value} {ms:List Ml} (hb:Below w1.heap.size w1 w2) (hS:Kd.S Mu 34 w2 w1.heap.size (fun _ =>True) v ms):
 QW w1 (w2.alloc (.cells #[.int .i64 n,v] 40)) w2.heap.size n v ms:=⟨dD hb _,kA w2 _,hb.size,Kd.Qe hS _⟩
theorem MB {w1 W:World} {g1 g2 g3:Nat} {a0:Int} {A:Option Addr} {l c:Nat} {cs:Array Value} (hb:Below w1.heap.size w1 W)
 (h1:w1.heap[g1]? =some (.cells #[.int .i64 a0,.slice A l c] 40 (0,0))) (h2:w1.heap[g2]? =some (.cells cs 46 (0,0))) (h3:w1.heap[g3]? =some (.cells #[.int .i64 0,.slice none 0 0] 40 (0,0))):
 (W.cell? ⟨g1,0,none⟩=some (.int .i64 a0)∧W.cell? ⟨g1,1,none⟩=some (.slice A l c)∧W.cell? ⟨g3,0,none⟩=some (.int .i64 0)∧W.cell? ⟨g3,1,none⟩=some (.slice none 0 0)∧W.frozen? ⟨g3,0,none⟩=false∧W.frozen? ⟨g3,1,none⟩=false∧W.heap[g3]? =some (.cells #[.int .i64 0,.slice none 0 0] 40 (0,0)))∧∀ j,W.cell? ⟨g2,j,none⟩=cs[j]? :=
 ⟨⟨(af (az h1 hb) 0).trans rfl,(af (az h1 hb) 1).trans rfl,(af (az h3 hb) 0).trans rfl,(af (az h3 hb) 1).trans rfl,aa (az h3 hb) 0,aa (az h3 hb) 1,az h3 hb⟩,fun j=>af (az h2 hb) j⟩
set_option maxRecDepth 100000 in
set_option maxHeartbeats 8000000 in
theorem cz.calls (k:Nat) (bu:Int) (kj:Option Addr) (jA:Nat) (aT:List Ml) (jh jL BZ jB ji:Int) (jk:Bool) (nv:Option Addr) (ny:Nat) (je:List ByteArray) (zm ke:ByteArray) (zn:Bool) (Fv:Option Addr) (Fw:Nat) (qx:List jN) (Fx:Option Addr) (Fy:Nat) (qy:List Int) (sA:Int) (r1:Int) (r2:List Ml) (r3:Int) (w:World)
 (qU:Kd.C Mu w kj aT.length aT) (qV:aT.length≤jA) (AB:Kd.C Kd.string w nv je.length je) (AE:je.length≤ny) (OU:Kd.C sN w Fv qx.length qx) (OV:qx.length≤Fw) (OW:Kd.C (Kd.int .u8) w Fx qy.length qy) (OX:qy.length≤Fy) (hG:bB w)
 (h:cz.f k bu aT jh jL BZ jB ji jk je zm ke zn qx qy sA=some (r1,r2,r3)):
 Calls Tryz.prog 15 #[.agg #[.int .i64 bu,.slice kj aT.length jA],.agg #[.int .u8 jh,.int .i64 jL,.int .i64 BZ,.int .i64 jB,.int .i64 ji,.bool jk,.slice nv je.length ny,.string zm,.string ke,.bool zn,.slice Fv qx.length Fw,.slice Fx qy.length Fy,.int .i64 sA]] w fun e w'=>∃ WX:Value,e= .returned (.tuple #[.agg #[.int .i64 r1,WX],.int .i64 r3])∧Kd.S Mu 34 w' w.heap.size (fun _ =>True) WX r2∧Below w.heap.size w w':=by
 have hu1:=Tryz.underlying46
 have hu2:=Tryz.underlying40
 unfold cz.f at h
 obtain ⟨⟨n,ms⟩,A1,h⟩:=Option.bind_eq_some_iff.mp h
 obtain ⟨ok,A2,h⟩:=Option.bind_eq_some_iff.mp h
 dsimp only at h
 obtain ⟨m,hm⟩:∃ m:Ml,m=⟨ji,⟨jk,je,⟨zm,ke,zn⟩⟩,qx,qy,sA⟩:=⟨_,rfl⟩
 have HC:=ah.mk (fun W (hb:Below w.heap.size w W)=>cF.calls k bu kj jA aT n ms W (Kd.bU qU hb) qV A1)
 have HR:=ah.mk (fun W (hb:Below w.heap.size w W)=>cW.calls k jh jL BZ jB ji jk nv ny je zm ke zn Fv Fw qx Fx Fy qy sA ok W (Kd.bU AB hb) AE (Kd.bU OU hb) OV (Kd.bU OW hb) OX (hG.below hb) A2)
 have HM:=ah.mk (fun W (hb:Below w.heap.size w W)=>(show MR W ⟨ji,⟨jk,je,⟨zm,ke,zn⟩⟩,qx,qy,sA⟩ nv ny Fv Fw Fx Fy from ⟨Kd.bU AB hb,AE,Kd.bU OU hb,OV,Kd.bU OW hb,OX⟩))
 clear qU qV AB AE OU OV OW OX hG A1 A2
 obtain ⟨w1,hw1⟩:∃ w1,w1=((w.alloc (.cells #[.int .i64 bu,.slice kj aT.length jA] 40)).alloc (.cells #[.int .u8 jh,.int .i64 jL,.int .i64 BZ,.int .i64 jB,.int .i64 ji,.bool jk,.slice nv je.length ny,.string zm,.string ke,.bool zn,.slice Fv qx.length Fw,.slice Fx qy.length Fy,.int .i64 sA] 46)).alloc (.cells #[.int .i64 0,.slice none 0 0] 40):=⟨_,rfl⟩
 have rC:=ah.mk (show Below w.heap.size w w1 by rw [hw1];exact dD (dD (dD (Below.refl _ _) _) _) _)
 have HF:=ah.mk (fun W (hb:Below w1.heap.size w1 W)=>MB (g1:=w.heap.size) (g2:=w.heap.size + 1) (g3:=w.heap.size + 1 + 1) hb (by rw [hw1];exact iq (iq (kA w _) _) _) (by rw [hw1];have:=kA (w.alloc (.cells #[.int .i64 bu,.slice kj aT.length jA] 40)) (.cells #[.int .u8 jh,.int .i64 jL,.int .i64 BZ,.int .i64 jB,.int .i64 ji,.bool jk,.slice nv je.length ny,.string zm,.string ke,.bool zn,.slice Fv qx.length Fw,.slice Fx qy.length Fy,.int .i64 sA] 46);rw [show (w.alloc (.cells #[.int .i64 bu,.slice kj aT.length jA] 40)).heap.size=w.heap.size + 1 by simp] at this;exact iq this _) (by rw [hw1];have:=kA ((w.alloc (.cells #[.int .i64 bu,.slice kj aT.length jA] 40)).alloc (.cells #[.int .u8 jh,.int .i64 jL,.int .i64 BZ,.int .i64 jB,.int .i64 ji,.bool jk,.slice nv je.length ny,.string zm,.string ke,.bool zn,.slice Fv qx.length Fw,.slice Fx qy.length Fy,.int .i64 sA] 46)) (.cells #[.int .i64 0,.slice none 0 0] 40);simpa using this))
 have xC:=Lib.hid hw1
 have HZ:=Lib.hid (show w1.heap.size=w.heap.size + 1 + 1 + 1 by rw [hw1];simp)
 clear hw1 hm
 cases ok with
 |false=>
  rw [if_neg bC] at h
  simp only [Option.some.injEq,Prod.mk.injEq] at h
  obtain ⟨rfl,rfl,rfl⟩:=h
  go_enter Tryz.func15,Tryz.ntmps15
  go_wp2_with fail
  rw [← xC.out]
  refine (HC.out _ rC.out).mono ?_
  rintro e w2 ⟨WX,rfl,Yi,hb2⟩
  obtain ⟨Av,cv,rfl⟩:=Kd.gP Yi
  have HQ3:=ah.mk (QW.start (n:=n) hb2 Yi)
  have hz:=HZ.out
  have hn1:w2.heap.size≠w.heap.size:=by have:=hb2.size;omega
  have hn2:w2.heap.size≠w.heap.size + 1:=by have:=hb2.size;omega
  have aov:=Ne.symm hn1
  have aow:=Ne.symm hn2
  clear hz
  obtain ⟨⟨q0a,q1a,r0a,r1a,z0a,z1a,-⟩,fc⟩:=HF.out _ (dD hb2 (.cells #[.int .i64 n,.slice Av ms.length cv] 40));have c0a:=(fc 0).trans rfl;have c1a:=(fc 1).trans rfl;have c2a:=(fc 2).trans rfl;have c3a:=(fc 3).trans rfl;have c4a:=(fc 4).trans rfl;have c5a:=(fc 5).trans rfl;have c6a:=(fc 6).trans rfl;have c7a:=(fc 7).trans rfl;have c8a:=(fc 8).trans rfl;have c9a:=(fc 9).trans rfl;have aox:=(fc 10).trans rfl;have aoy:=(fc 11).trans rfl;have aoz:=(fc 12).trans rfl;clear fc
  clear Yi hb2
  go_wp2_with (first
   |(go_at_call 58;refine (HR.out _ ?Fz).mono ?_;(case Fz=>exact fY rC.out rC.out.size HQ3.out.bl);rintro e w4 ⟨rfl,hb4⟩;have Yj:=ah.mk (HQ3.out.below hb4);clear hb4;obtain ⟨⟨q0b,q1b,r0b,r1b,z0b,z1b,-⟩,fc⟩:=HF.out _ (Yj.out.bl);clear fc)
   |(go_at_call 57;refine (HC.out _ ?Yk).mono ?_;(case Yk=>exact fY rC.out rC.out.size Yj.out.bl);rintro e w6 ⟨UW,rfl,hS6,Vl⟩;obtain ⟨A6_,c6_,rfl⟩:=Kd.gP hS6;have HB6:=ah.mk (fY Yj.out.bl (Yj.out.bl).size Vl);have HS6:=ah.mk (Kd.lN hS6 (fY rC.out rC.out.size Yj.out.bl).size);clear hS6 Vl;obtain ⟨⟨q0d,q1d,r0d,r1d,z0d,z1d,-⟩,fc⟩:=HF.out _ (HB6.out);clear fc))
  have HT:=HF.out _ HB6.out
  refine bodyPost_ret (vp rfl _ _ (w.heap.size + 1 + 1) 40 #[.int .i64 n,(.slice A6_ ms.length c6_)] (0,0) _ rfl (aW (cs:=#[.int .i64 n,.slice none 0 0]) (aW (cs:=#[.int .i64 0,.slice none 0 0]) HT.1.2.2.2.2.2.2 0 _ rfl) 1 _ rfl) Tryz.underlying40 rfl au) rfl ?_
  exact ⟨_,rfl,Kd.Cw (Kd.Cw HS6.out HT.1.2.2.2.2.2.2 bC 0 _) (aW (cs:=#[.int .i64 0,.slice none 0 0]) HT.1.2.2.2.2.2.2 0 (.int .i64 n) rfl) bC 1 _,cC (cC (fY rC.out rC.out.size HB6.out) xJ) xJ⟩
 |true=>
  rw [if_pos rfl] at h
  obtain ⟨⟨b,n',ms'⟩,A3,h⟩:=Option.bind_eq_some_iff.mp h
  have h:=Option.some.inj h
  have HFI:=ah.mk (fun (W:World) (gq:Nat) (v:Value) (hq:QW w1 W gq n v ms)=>pG.calls hq (HM.out _ rC.out) A3)
  clear A3 HM
  cases b with
  |false=>
   simp only [cz.end,Prod.mk.injEq] at h
   obtain ⟨rfl,rfl,rfl⟩:=h
   go_enter Tryz.func15,Tryz.ntmps15
   go_wp2_with fail
   rw [← xC.out]
   refine (HC.out _ rC.out).mono ?_
   rintro e w2 ⟨WX,rfl,Yi,hb2⟩
   obtain ⟨Av,cv,rfl⟩:=Kd.gP Yi
   have HQ3:=ah.mk (QW.start (n:=n) hb2 Yi)
   have hz:=HZ.out
   have hn1:w2.heap.size≠w.heap.size:=by have:=hb2.size;omega
   have hn2:w2.heap.size≠w.heap.size + 1:=by have:=hb2.size;omega
   have aov:=Ne.symm hn1
   have aow:=Ne.symm hn2
   clear hz
   obtain ⟨⟨q0a,q1a,r0a,r1a,z0a,z1a,-⟩,fc⟩:=HF.out _ (dD hb2 (.cells #[.int .i64 n,.slice Av ms.length cv] 40));have c0a:=(fc 0).trans rfl;have c1a:=(fc 1).trans rfl;have c2a:=(fc 2).trans rfl;have c3a:=(fc 3).trans rfl;have c4a:=(fc 4).trans rfl;have c5a:=(fc 5).trans rfl;have c6a:=(fc 6).trans rfl;have c7a:=(fc 7).trans rfl;have c8a:=(fc 8).trans rfl;have c9a:=(fc 9).trans rfl;have aox:=(fc 10).trans rfl;have aoy:=(fc 11).trans rfl;have aoz:=(fc 12).trans rfl;clear fc
   clear Yi hb2
   go_wp2_with (first
    |(go_at_call 58;refine (HR.out _ ?Fz).mono ?_;(case Fz=>exact fY rC.out rC.out.size HQ3.out.bl);rintro e w4 ⟨rfl,hb4⟩;have Yj:=ah.mk (HQ3.out.below hb4);clear hb4;obtain ⟨⟨q0b,q1b,r0b,r1b,z0b,z1b,-⟩,fc⟩:=HF.out _ (Yj.out.bl);have c0b:=(fc 0).trans rfl;have c1b:=(fc 1).trans rfl;have c2b:=(fc 2).trans rfl;have c3b:=(fc 3).trans rfl;have c4b:=(fc 4).trans rfl;have c5b:=(fc 5).trans rfl;have c6b:=(fc 6).trans rfl;have c7b:=(fc 7).trans rfl;have c8b:=(fc 8).trans rfl;have c9b:=(fc 9).trans rfl;have aD5:=(fc 10).trans rfl;have aD6:=(fc 11).trans rfl;have aD7:=(fc 12).trans rfl;clear fc)
    |(go_at_call 59;refine (HFI.out _ _ _ Yj.out).mono ?_;rintro e w5 ⟨rfl,xB,hq5⟩;have Yl:=ah.mk xB;have HV5:=ah.mk hq5;clear xB hq5;obtain ⟨⟨q0e,q1e,r0e,r1e,z0e,z1e,-⟩,fc⟩:=HF.out _ (Yl.out);clear fc)
    |(go_at_call 57;refine (HC.out _ ?Yk).mono ?_;(case Yk=>exact fY rC.out rC.out.size Yl.out);rintro e w6 ⟨UW,rfl,hS6,Vl⟩;obtain ⟨A6_,c6_,rfl⟩:=Kd.gP hS6;have HB6:=ah.mk (fY Yl.out (Yl.out).size Vl);have HS6:=ah.mk (Kd.lN hS6 (fY rC.out rC.out.size Yl.out).size);clear hS6 Vl;obtain ⟨⟨q0d,q1d,r0d,r1d,z0d,z1d,-⟩,fc⟩:=HF.out _ (HB6.out);clear fc))
   have HT:=HF.out _ HB6.out
   refine bodyPost_ret (vp rfl _ _ (w.heap.size + 1 + 1) 40 #[.int .i64 n,(.slice A6_ ms.length c6_)] (0,0) _ rfl (aW (cs:=#[.int .i64 n,.slice none 0 0]) (aW (cs:=#[.int .i64 0,.slice none 0 0]) HT.1.2.2.2.2.2.2 0 _ rfl) 1 _ rfl) Tryz.underlying40 rfl au) rfl ?_
   exact ⟨_,rfl,Kd.Cw (Kd.Cw HS6.out HT.1.2.2.2.2.2.2 bC 0 _) (aW (cs:=#[.int .i64 0,.slice none 0 0]) HT.1.2.2.2.2.2.2 0 (.int .i64 n) rfl) bC 1 _,cC (cC (fY rC.out rC.out.size HB6.out) xJ) xJ⟩
  |true=>
   simp only [cz.end,Prod.mk.injEq] at h
   obtain ⟨rfl,rfl,rfl⟩:=h
   go_enter Tryz.func15,Tryz.ntmps15
   go_wp2_with fail
   rw [← xC.out]
   refine (HC.out _ rC.out).mono ?_
   rintro e w2 ⟨WX,rfl,Yi,hb2⟩
   obtain ⟨Av,cv,rfl⟩:=Kd.gP Yi
   have HQ3:=ah.mk (QW.start (n:=n) hb2 Yi)
   have hz:=HZ.out
   have hn1:w2.heap.size≠w.heap.size:=by have:=hb2.size;omega
   have hn2:w2.heap.size≠w.heap.size + 1:=by have:=hb2.size;omega
   have aov:=Ne.symm hn1
   have aow:=Ne.symm hn2
   clear hz
   obtain ⟨⟨q0a,q1a,r0a,r1a,z0a,z1a,-⟩,fc⟩:=HF.out _ (dD hb2 (.cells #[.int .i64 n,.slice Av ms.length cv] 40));have c0a:=(fc 0).trans rfl;have c1a:=(fc 1).trans rfl;have c2a:=(fc 2).trans rfl;have c3a:=(fc 3).trans rfl;have c4a:=(fc 4).trans rfl;have c5a:=(fc 5).trans rfl;have c6a:=(fc 6).trans rfl;have c7a:=(fc 7).trans rfl;have c8a:=(fc 8).trans rfl;have c9a:=(fc 9).trans rfl;have aox:=(fc 10).trans rfl;have aoy:=(fc 11).trans rfl;have aoz:=(fc 12).trans rfl;clear fc
   clear Yi hb2
   go_wp2_with (first
    |(go_at_call 58;refine (HR.out _ ?Fz).mono ?_;(case Fz=>exact fY rC.out rC.out.size HQ3.out.bl);rintro e w4 ⟨rfl,hb4⟩;have Yj:=ah.mk (HQ3.out.below hb4);clear hb4;obtain ⟨⟨q0b,q1b,r0b,r1b,z0b,z1b,-⟩,fc⟩:=HF.out _ (Yj.out.bl);have c0b:=(fc 0).trans rfl;have c1b:=(fc 1).trans rfl;have c2b:=(fc 2).trans rfl;have c3b:=(fc 3).trans rfl;have c4b:=(fc 4).trans rfl;have c5b:=(fc 5).trans rfl;have c6b:=(fc 6).trans rfl;have c7b:=(fc 7).trans rfl;have c8b:=(fc 8).trans rfl;have c9b:=(fc 9).trans rfl;have aD5:=(fc 10).trans rfl;have aD6:=(fc 11).trans rfl;have aD7:=(fc 12).trans rfl;clear fc)
    |(go_at_call 59;refine (HFI.out _ _ _ Yj.out).mono ?_;rintro e w5 ⟨rfl,xB,hq5⟩;have Yl:=ah.mk xB;have HV5:=ah.mk hq5;clear xB hq5;obtain ⟨v5_,hv5⟩:=HV5.out rfl;obtain ⟨A5_,c5_,rfl⟩:=Kd.gP hv5.hs;have HQ5:=ah.mk hv5;have p0:w5.cell? ⟨w2.heap.size,0,none⟩=some (.int .i64 n'):=(af hv5.hq 0).trans rfl;have p1:w5.cell? ⟨w2.heap.size,1,none⟩=some (.slice A5_ ms'.length c5_):=(af hv5.hq 1).trans rfl;clear hv5;obtain ⟨⟨q0e,q1e,r0e,r1e,z0e,z1e,-⟩,fc⟩:=HF.out _ (Yl.out);clear fc))
   have HT:=HF.out _ Yl.out
   refine bodyPost_ret (vp rfl _ _ (w.heap.size + 1 + 1) 40 #[.int .i64 n',(.slice A5_ ms'.length c5_)] (0,0) _ rfl (aW (cs:=#[.int .i64 n',.slice none 0 0]) (aW (cs:=#[.int .i64 0,.slice none 0 0]) HT.1.2.2.2.2.2.2 0 _ rfl) 1 _ rfl) Tryz.underlying40 rfl au) rfl ?_
   exact ⟨_,rfl,Kd.Cw (Kd.Cw (Kd.lN HQ5.out.hs rC.out.size) HT.1.2.2.2.2.2.2 bC 0 _) (aW (cs:=#[.int .i64 0,.slice none 0 0]) HT.1.2.2.2.2.2.2 0 (.int .i64 n') rfl) bC 1 _,cC (cC (fY rC.out rC.out.size Yl.out) xJ) xJ⟩
end Go.Proofs.YtbjjaaodfbjkfaaGreatDoor.ow
