import Derived.Test.YtbjjaaodfbjkfaaGreatDoorEQue6
import Derived.Test.YtbjjaaodfbjkfaaGreatDoorQQux11
namespace Go.Proofs.YtbjjaaodfbjkfaaGreatDoor.qb
open Go.RowKit Go.Proofs.aj.bQ Go.Proofs.aj.dX Go.Proofs.aj.dJ
set_option linter.unusedVariables false
set_option linter.unusedSimpArgs false
def eO.end (n:Int) (ms:List Ml):Bool×Int×List Ml→Int×List Ml×Int
 |(true,n',ms')=>(n',ms',0)
 |(false,_,_)=>(n,ms,220)
def eO.f (k:Nat) (bB:Int) (bn:List Ml) (Ga Gb Gc Gd BI:Int) (BJ:Bool) (yH:List ByteArray) (BK BL:ByteArray) (BM:Bool) (rK:List iN) (rL:List Int) (vp:Int):Option (Int×List Ml×Int):=
 (cZ.f k bB bn).bind fun q=>(eX.f k Ga Gb Gc Gd BI BJ yH BK BL BM rK rL vp).bind fun ok=>
   if ok=true then (kF.f q.1 q.2 Ga Gb Gc Gd ⟨BI,⟨BJ,yH,⟨BK,BL,BM⟩⟩,rK,rL,vp⟩).bind fun r=>some (eO.end q.1 q.2 r) else some (q.1,q.2,220)
theorem QW.start {w1 w2:World} {n:Int} {v:Value} {ms:List Ml} (hb:Below w1.heap.size w1 w2) (hS:Kd.S R9 34 w2 w1.heap.size (fun _ =>True) v ms):
 QW w1 (w2.alloc (.cells #[.int .i64 n,v] 40)) w2.heap.size n v ms:=⟨cW hb _,l8 w2 _,hb.size,Kd.Lb hS _⟩
theorem IL {w1 W:World} {g1 g2 g3:Nat} {a0:Int} {A:Option Addr} {l c:Nat} {cs:Array Value} (hb:Below w1.heap.size w1 W)
 (h1:w1.heap[g1]? =some (.cells #[.int .i64 a0,.slice A l c] 40 (0,0))) (h2:w1.heap[g2]? =some (.cells cs 46 (0,0))) (h3:w1.heap[g3]? =some (.cells #[.int .i64 0,.slice none 0 0] 40 (0,0))):
 (W.cell? ⟨g1,0,none⟩=some (.int .i64 a0)∧W.cell? ⟨g1,1,none⟩=some (.slice A l c)∧W.cell? ⟨g3,0,none⟩=some (.int .i64 0)∧W.cell? ⟨g3,1,none⟩=some (.slice none 0 0)∧W.frozen? ⟨g3,0,none⟩=false∧W.frozen? ⟨g3,1,none⟩=false∧W.heap[g3]? =some (.cells #[.int .i64 0,.slice none 0 0] 40 (0,0)))∧∀ j,W.cell? ⟨g2,j,none⟩=cs[j]? :=
 ⟨⟨(af (aC h1 hb) 0).trans rfl,(af (aC h1 hb) 1).trans rfl,(af (aC h3 hb) 0).trans rfl,(af (aC h3 hb) 1).trans rfl,aa (aC h3 hb) 0,aa (aC h3 hb) 1,aC h3 hb⟩,fun j=>af (aC h2 hb) j⟩
set_option maxRecDepth 100000 in
set_option maxHeartbeats 8000000 in
theorem eO.calls (k:Nat) (bB:Int) (lZ:Option Addr) (kE:Nat) (bn:List Ml) (Ga Gb Gc Gd BI:Int) (BJ:Bool) (Kg:Option Addr) (Kh:Nat) (yH:List ByteArray) (BK BL:ByteArray) (BM:Bool) (BN:Option Addr) (BO:Nat) (rK:List iN) (BP:Option Addr) (BQ:Nat) (rL:List Int) (vp:Int) (r1:Int) (r2:List Ml) (r3:Int) (w:World)
 (uV:Kd.C R9 w lZ bn.length bn) (uW:bn.length≤kE) (Tz:Kd.C Kd.string w Kg yH.length yH) (TA:yH.length≤Kh) (Ki:Kd.C mV w BN rK.length rK) (Kj:rK.length≤BO) (Kk:Kd.C (Kd.int .u8) w BP rL.length rL) (Kl:rL.length≤BQ) (hG:bp w)
 (h:eO.f k bB bn Ga Gb Gc Gd BI BJ yH BK BL BM rK rL vp=some (r1,r2,r3)):
 Calls Tryz.prog 15 #[.agg #[.int .i64 bB,.slice lZ bn.length kE],.agg #[.int .u8 Ga,.int .i64 Gb,.int .i64 Gc,.int .i64 Gd,.int .i64 BI,.bool BJ,.slice Kg yH.length Kh,.string BK,.string BL,.bool BM,.slice BN rK.length BO,.slice BP rL.length BQ,.int .i64 vp]] w fun e w'=>∃ Q7:Value,e= .returned (.tuple #[.agg #[.int .i64 r1,Q7],.int .i64 r3])∧Kd.S R9 34 w' w.heap.size (fun _ =>True) Q7 r2∧Below w.heap.size w w':=by
 have hu1:=Tryz.underlying46
 have hu2:=Tryz.underlying40
 unfold eO.f at h
 obtain ⟨⟨n,ms⟩,A1,h⟩:=Option.bind_eq_some_iff.mp h
 obtain ⟨ok,A2,h⟩:=Option.bind_eq_some_iff.mp h
 dsimp only at h
 obtain ⟨m,hm⟩:∃ m:Ml,m=⟨BI,⟨BJ,yH,⟨BK,BL,BM⟩⟩,rK,rL,vp⟩:=⟨_,rfl⟩
 have HC:=ah.mk (fun W (hb:Below w.heap.size w W)=>cZ.calls k bB lZ kE bn n ms W (Kd.bG uV hb) uW A1)
 have HR:=ah.mk (fun W (hb:Below w.heap.size w W)=>eX.calls k Ga Gb Gc Gd BI BJ Kg Kh yH BK BL BM BN BO rK BP BQ rL vp ok W (Kd.bG Tz hb) TA (Kd.bG Ki hb) Kj (Kd.bG Kk hb) Kl (hG.below hb) A2)
 have HM:=ah.mk (fun W (hb:Below w.heap.size w W)=>(show MR W ⟨BI,⟨BJ,yH,⟨BK,BL,BM⟩⟩,rK,rL,vp⟩ Kg Kh BN BO BP BQ from ⟨Kd.bG Tz hb,TA,Kd.bG Ki hb,Kj,Kd.bG Kk hb,Kl⟩))
 clear uV uW Tz TA Ki Kj Kk Kl hG A1 A2
 obtain ⟨w1,hw1⟩:∃ w1,w1=((w.alloc (.cells #[.int .i64 bB,.slice lZ bn.length kE] 40)).alloc (.cells #[.int .u8 Ga,.int .i64 Gb,.int .i64 Gc,.int .i64 Gd,.int .i64 BI,.bool BJ,.slice Kg yH.length Kh,.string BK,.string BL,.bool BM,.slice BN rK.length BO,.slice BP rL.length BQ,.int .i64 vp] 46)).alloc (.cells #[.int .i64 0,.slice none 0 0] 40):=⟨_,rfl⟩
 have rY:=ah.mk (show Below w.heap.size w w1 by rw [hw1];exact cW (cW (cW (Below.refl _ _) _) _) _)
 have HF:=ah.mk (fun W (hb:Below w1.heap.size w1 W)=>IL (g1:=w.heap.size) (g2:=w.heap.size + 1) (g3:=w.heap.size + 1 + 1) hb (by rw [hw1];exact iL (iL (l8 w _) _) _) (by rw [hw1];have:=l8 (w.alloc (.cells #[.int .i64 bB,.slice lZ bn.length kE] 40)) (.cells #[.int .u8 Ga,.int .i64 Gb,.int .i64 Gc,.int .i64 Gd,.int .i64 BI,.bool BJ,.slice Kg yH.length Kh,.string BK,.string BL,.bool BM,.slice BN rK.length BO,.slice BP rL.length BQ,.int .i64 vp] 46);rw [show (w.alloc (.cells #[.int .i64 bB,.slice lZ bn.length kE] 40)).heap.size=w.heap.size + 1 by simp] at this;exact iL this _) (by rw [hw1];have:=l8 ((w.alloc (.cells #[.int .i64 bB,.slice lZ bn.length kE] 40)).alloc (.cells #[.int .u8 Ga,.int .i64 Gb,.int .i64 Gc,.int .i64 Gd,.int .i64 BI,.bool BJ,.slice Kg yH.length Kh,.string BK,.string BL,.bool BM,.slice BN rK.length BO,.slice BP rL.length BQ,.int .i64 vp] 46)) (.cells #[.int .i64 0,.slice none 0 0] 40);simpa using this))
 have yD:=Lib.hid hw1
 have HZ:=Lib.hid (show w1.heap.size=w.heap.size + 1 + 1 + 1 by rw [hw1];simp)
 clear hw1 hm
 cases ok with
 |false=>
  rw [if_neg bE] at h
  simp only [Option.some.injEq,Prod.mk.injEq] at h
  obtain ⟨rfl,rfl,rfl⟩:=h
  go_enter Tryz.func15,Tryz.ntmps15
  go_wp2_with fail
  rw [← yD.out]
  refine (HC.out _ rY.out).mono ?_
  rintro e w2 ⟨Q7,rfl,TB,hb2⟩
  obtain ⟨Av,cv,rfl⟩:=Kd.ji TB
  have HQ3:=ah.mk (QW.start (n:=n) hb2 TB)
  have hz:=HZ.out
  have hn1:w2.heap.size≠w.heap.size:=by have:=hb2.size;omega
  have hn2:w2.heap.size≠w.heap.size + 1:=by have:=hb2.size;omega
  have ami:=Ne.symm hn1
  have amj:=Ne.symm hn2
  clear hz
  obtain ⟨⟨q0a,q1a,r0a,r1a,z0a,z1a,-⟩,fc⟩:=HF.out _ (cW hb2 (.cells #[.int .i64 n,.slice Av ms.length cv] 40));have c0a:=(fc 0).trans rfl;have c1a:=(fc 1).trans rfl;have c2a:=(fc 2).trans rfl;have c3a:=(fc 3).trans rfl;have c4a:=(fc 4).trans rfl;have c5a:=(fc 5).trans rfl;have c6a:=(fc 6).trans rfl;have c7a:=(fc 7).trans rfl;have c8a:=(fc 8).trans rfl;have c9a:=(fc 9).trans rfl;have amk:=(fc 10).trans rfl;have aml:=(fc 11).trans rfl;have amm:=(fc 12).trans rfl;clear fc
  clear TB hb2
  go_wp2_with (first
   |(go_at_call 58;refine (HR.out _ ?IM).mono ?_;(case IM=>exact fB rY.out rY.out.size HQ3.out.bl);rintro e w4 ⟨rfl,hb4⟩;have TC:=ah.mk (HQ3.out.below hb4);clear hb4;obtain ⟨⟨q0b,q1b,r0b,r1b,z0b,z1b,-⟩,fc⟩:=HF.out _ (TC.out.bl);clear fc)
   |(go_at_call 57;refine (HC.out _ ?TD).mono ?_;(case TD=>exact fB rY.out rY.out.size TC.out.bl);rintro e w6 ⟨Pf,rfl,hS6,hb6⟩;obtain ⟨A6_,c6_,rfl⟩:=Kd.ji hS6;have HB6:=ah.mk (fB TC.out.bl (TC.out.bl).size hb6);have HS6:=ah.mk (Kd.qm hS6 (fB rY.out rY.out.size TC.out.bl).size);clear hS6 hb6;obtain ⟨⟨q0d,q1d,r0d,r1d,z0d,z1d,-⟩,fc⟩:=HF.out _ (HB6.out);clear fc))
  have HT:=HF.out _ HB6.out
  refine bodyPost_ret (kC rfl _ _ (w.heap.size + 1 + 1) 40 #[.int .i64 n,(.slice A6_ ms.length c6_)] (0,0) _ rfl (aH (cs:=#[.int .i64 n,.slice none 0 0]) (aH (cs:=#[.int .i64 0,.slice none 0 0]) HT.1.2.2.2.2.2.2 0 _ rfl) 1 _ rfl) Tryz.underlying40 rfl aR) rfl ?_
  exact ⟨_,rfl,Kd.zQ (Kd.zQ HS6.out HT.1.2.2.2.2.2.2 bE 0 _) (aH (cs:=#[.int .i64 0,.slice none 0 0]) HT.1.2.2.2.2.2.2 0 (.int .i64 n) rfl) bE 1 _,dN (dN (fB rY.out rY.out.size HB6.out) zq) zq⟩
 |true=>
  rw [if_pos rfl] at h
  obtain ⟨⟨b,n',ms'⟩,A3,h⟩:=Option.bind_eq_some_iff.mp h
  have h:=Option.some.inj h
  have HFI:=ah.mk (fun (W:World) (gq:Nat) (v:Value) (hq:QW w1 W gq n v ms)=>kF.calls hq (HM.out _ rY.out) A3)
  clear A3 HM
  cases b with
  |false=>
   simp only [eO.end,Prod.mk.injEq] at h
   obtain ⟨rfl,rfl,rfl⟩:=h
   go_enter Tryz.func15,Tryz.ntmps15
   go_wp2_with fail
   rw [← yD.out]
   refine (HC.out _ rY.out).mono ?_
   rintro e w2 ⟨Q7,rfl,TB,hb2⟩
   obtain ⟨Av,cv,rfl⟩:=Kd.ji TB
   have HQ3:=ah.mk (QW.start (n:=n) hb2 TB)
   have hz:=HZ.out
   have hn1:w2.heap.size≠w.heap.size:=by have:=hb2.size;omega
   have hn2:w2.heap.size≠w.heap.size + 1:=by have:=hb2.size;omega
   have ami:=Ne.symm hn1
   have amj:=Ne.symm hn2
   clear hz
   obtain ⟨⟨q0a,q1a,r0a,r1a,z0a,z1a,-⟩,fc⟩:=HF.out _ (cW hb2 (.cells #[.int .i64 n,.slice Av ms.length cv] 40));have c0a:=(fc 0).trans rfl;have c1a:=(fc 1).trans rfl;have c2a:=(fc 2).trans rfl;have c3a:=(fc 3).trans rfl;have c4a:=(fc 4).trans rfl;have c5a:=(fc 5).trans rfl;have c6a:=(fc 6).trans rfl;have c7a:=(fc 7).trans rfl;have c8a:=(fc 8).trans rfl;have c9a:=(fc 9).trans rfl;have amk:=(fc 10).trans rfl;have aml:=(fc 11).trans rfl;have amm:=(fc 12).trans rfl;clear fc
   clear TB hb2
   go_wp2_with (first
    |(go_at_call 58;refine (HR.out _ ?IM).mono ?_;(case IM=>exact fB rY.out rY.out.size HQ3.out.bl);rintro e w4 ⟨rfl,hb4⟩;have TC:=ah.mk (HQ3.out.below hb4);clear hb4;obtain ⟨⟨q0b,q1b,r0b,r1b,z0b,z1b,-⟩,fc⟩:=HF.out _ (TC.out.bl);have c0b:=(fc 0).trans rfl;have c1b:=(fc 1).trans rfl;have c2b:=(fc 2).trans rfl;have c3b:=(fc 3).trans rfl;have c4b:=(fc 4).trans rfl;have c5b:=(fc 5).trans rfl;have c6b:=(fc 6).trans rfl;have c7b:=(fc 7).trans rfl;have c8b:=(fc 8).trans rfl;have c9b:=(fc 9).trans rfl;have aC7:=(fc 10).trans rfl;have aC8:=(fc 11).trans rfl;have aC9:=(fc 12).trans rfl;clear fc)
    |(go_at_call 59;refine (HFI.out _ _ _ TC.out).mono ?_;rintro e w5 ⟨rfl,hb5,hq5⟩;have HB5:=ah.mk hb5;have HV5:=ah.mk hq5;clear hb5 hq5;obtain ⟨⟨q0e,q1e,r0e,r1e,z0e,z1e,-⟩,fc⟩:=HF.out _ (HB5.out);clear fc)
    |(go_at_call 57;refine (HC.out _ ?TD).mono ?_;(case TD=>exact fB rY.out rY.out.size HB5.out);rintro e w6 ⟨Pf,rfl,hS6,hb6⟩;obtain ⟨A6_,c6_,rfl⟩:=Kd.ji hS6;have HB6:=ah.mk (fB HB5.out (HB5.out).size hb6);have HS6:=ah.mk (Kd.qm hS6 (fB rY.out rY.out.size HB5.out).size);clear hS6 hb6;obtain ⟨⟨q0d,q1d,r0d,r1d,z0d,z1d,-⟩,fc⟩:=HF.out _ (HB6.out);clear fc))
   have HT:=HF.out _ HB6.out
   refine bodyPost_ret (kC rfl _ _ (w.heap.size + 1 + 1) 40 #[.int .i64 n,(.slice A6_ ms.length c6_)] (0,0) _ rfl (aH (cs:=#[.int .i64 n,.slice none 0 0]) (aH (cs:=#[.int .i64 0,.slice none 0 0]) HT.1.2.2.2.2.2.2 0 _ rfl) 1 _ rfl) Tryz.underlying40 rfl aR) rfl ?_
   exact ⟨_,rfl,Kd.zQ (Kd.zQ HS6.out HT.1.2.2.2.2.2.2 bE 0 _) (aH (cs:=#[.int .i64 0,.slice none 0 0]) HT.1.2.2.2.2.2.2 0 (.int .i64 n) rfl) bE 1 _,dN (dN (fB rY.out rY.out.size HB6.out) zq) zq⟩
  |true=>
   simp only [eO.end,Prod.mk.injEq] at h
   obtain ⟨rfl,rfl,rfl⟩:=h
   go_enter Tryz.func15,Tryz.ntmps15
   go_wp2_with fail
   rw [← yD.out]
   refine (HC.out _ rY.out).mono ?_
   rintro e w2 ⟨Q7,rfl,TB,hb2⟩
   obtain ⟨Av,cv,rfl⟩:=Kd.ji TB
   have HQ3:=ah.mk (QW.start (n:=n) hb2 TB)
   have hz:=HZ.out
   have hn1:w2.heap.size≠w.heap.size:=by have:=hb2.size;omega
   have hn2:w2.heap.size≠w.heap.size + 1:=by have:=hb2.size;omega
   have ami:=Ne.symm hn1
   have amj:=Ne.symm hn2
   clear hz
   obtain ⟨⟨q0a,q1a,r0a,r1a,z0a,z1a,-⟩,fc⟩:=HF.out _ (cW hb2 (.cells #[.int .i64 n,.slice Av ms.length cv] 40));have c0a:=(fc 0).trans rfl;have c1a:=(fc 1).trans rfl;have c2a:=(fc 2).trans rfl;have c3a:=(fc 3).trans rfl;have c4a:=(fc 4).trans rfl;have c5a:=(fc 5).trans rfl;have c6a:=(fc 6).trans rfl;have c7a:=(fc 7).trans rfl;have c8a:=(fc 8).trans rfl;have c9a:=(fc 9).trans rfl;have amk:=(fc 10).trans rfl;have aml:=(fc 11).trans rfl;have amm:=(fc 12).trans rfl;clear fc
   clear TB hb2
   go_wp2_with (first
    |(go_at_call 58;refine (HR.out _ ?IM).mono ?_;(case IM=>exact fB rY.out rY.out.size HQ3.out.bl);rintro e w4 ⟨rfl,hb4⟩;have TC:=ah.mk (HQ3.out.below hb4);clear hb4;obtain ⟨⟨q0b,q1b,r0b,r1b,z0b,z1b,-⟩,fc⟩:=HF.out _ (TC.out.bl);have c0b:=(fc 0).trans rfl;have c1b:=(fc 1).trans rfl;have c2b:=(fc 2).trans rfl;have c3b:=(fc 3).trans rfl;have c4b:=(fc 4).trans rfl;have c5b:=(fc 5).trans rfl;have c6b:=(fc 6).trans rfl;have c7b:=(fc 7).trans rfl;have c8b:=(fc 8).trans rfl;have c9b:=(fc 9).trans rfl;have aC7:=(fc 10).trans rfl;have aC8:=(fc 11).trans rfl;have aC9:=(fc 12).trans rfl;clear fc)
    |(go_at_call 59;refine (HFI.out _ _ _ TC.out).mono ?_;rintro e w5 ⟨rfl,hb5,hq5⟩;have HB5:=ah.mk hb5;have HV5:=ah.mk hq5;clear hb5 hq5;obtain ⟨v5_,hv5⟩:=HV5.out rfl;obtain ⟨A5_,c5_,rfl⟩:=Kd.ji hv5.hs;have HQ5:=ah.mk hv5;have p0:w5.cell? ⟨w2.heap.size,0,none⟩=some (.int .i64 n'):=(af hv5.hq 0).trans rfl;have p1:w5.cell? ⟨w2.heap.size,1,none⟩=some (.slice A5_ ms'.length c5_):=(af hv5.hq 1).trans rfl;clear hv5;obtain ⟨⟨q0e,q1e,r0e,r1e,z0e,z1e,-⟩,fc⟩:=HF.out _ (HB5.out);clear fc))
   have HT:=HF.out _ HB5.out
   refine bodyPost_ret (kC rfl _ _ (w.heap.size + 1 + 1) 40 #[.int .i64 n',(.slice A5_ ms'.length c5_)] (0,0) _ rfl (aH (cs:=#[.int .i64 n',.slice none 0 0]) (aH (cs:=#[.int .i64 0,.slice none 0 0]) HT.1.2.2.2.2.2.2 0 _ rfl) 1 _ rfl) Tryz.underlying40 rfl aR) rfl ?_
   exact ⟨_,rfl,Kd.zQ (Kd.zQ (Kd.qm HQ5.out.hs rY.out.size) HT.1.2.2.2.2.2.2 bE 0 _) (aH (cs:=#[.int .i64 0,.slice none 0 0]) HT.1.2.2.2.2.2.2 0 (.int .i64 n') rfl) bE 1 _,dN (dN (fB rY.out rY.out.size HB5.out) zq) zq⟩
end Go.Proofs.YtbjjaaodfbjkfaaGreatDoor.qb
