import Derived.Test.YtokpnfljjjjikaaGreatDoorZo
import Derived.Test.YtokpnfljjjjikaaGreatDoorQCbx0
import Derived.Test.YtokpnfljjjjikaaGreatDoorQCbx1
import Derived.Test.YtokpnfljjjjikaaGreatDoorQCbx15
import Derived.Test.YtokpnfljjjjikaaGreatDoorQCbx16
import Derived.Test.YtokpnfljjjjikaaGreatDoorEParse
namespace Go.Proofs.YtokpnfljjjjikaaGreatDoor.pJ
open Go.RowKit Go.Proofs.aj.bV Go.Proofs.aj.gq Go.Proofs.aj.dB
attribute [local go_sem] jo jq kM kN iO iP jr jt
set_option linter.unusedVariables false
set_option linter.unusedSimpArgs false
attribute [local go_sem high] Vl
def bu.l0:Nat→List (ij)→Int→Int→Option (Int)
 | 0,_,_,_ =>none
 |k + 1,x0,x7,x8=>if x8 < x7 then (if 0≤x8 then (if x8 < (x0.length:Int) then ((kX.f k ((dL x0 x8).f0) ((dL x0 x8).f1) ((dL x0 x8).f2)).bind fun ZL=>(if ZL=true then (some x8) else (bu.l0 k x0 x7 (wrap64 (x8 + 1))))) else (none)) else (none)) else (some (-1))
def bu.f (k:Nat) (l0:List (ij)):Option (Int):=bu.l0 k l0 (l0.length:Int) 0
set_option maxHeartbeats 8000000 in
set_option maxRecDepth 100000 in
theorem bu.calls (k:Nat) (A0:Option Addr) (c0:Nat) (l0:List (ij)) (r:Int) (w:World) (zH:Kd.C CF w A0 l0.length l0) (hc0:l0.length≤c0) (h:bu.f k l0=some r):
 Calls Tryz.prog 175 #[.slice A0 l0.length c0,.func (.func 137) #[] #[]] w fun e w'=>e= .returned (.int .i64 r)∧Below w.heap.size w w':=by
 have Vq:=Tryz.underlying58
 have yM:=ah.mk zH
 have Rt:=ah.mk hc0
 clear zH hc0
 have HB:=ah.mk (Below.refl w.heap.size w)
 have H:(bu.l0 k l0 (l0.length:Int) 0)=some r:=h
 clear h
 have H':=ah.mk H
 clear H
 go_enter Tryz.func175,Tryz.ntmps175
 go_wp2
 go_loopg [8] k (fun kq v8 w'=>∃ (fA:Int),v8= .int .i64 fA∧ah (bu.l0 kq l0 (l0.length:Int) fA=some r)∧ah (kq≤k)∧ah (Below w.heap.size w w'))
 case atStart=>exact ⟨(0),ey,H',⟨Nat.le_refl _⟩,⟨bN⟩⟩
 case round=>
  clear H'
  try clear c1
  try clear p2
  obtain ⟨fA,rfl,HA,uX,HB⟩:=hrel
  cases gk with
  |zero=>exact absurd HA.out (by simp [bu.l0])
  |succ k1=>
   have H:=HA.out
   clear HA
   simp only [bu.l0] at H
   by_cases c3:fA < (l0.length:Int)
   ·rw [if_pos c3] at H
    have pX:decide (fA < (l0.length:Int))=true:=decide_eq_true c3
    clear c3
    by_cases c4: 0≤fA
    ·rw [if_pos c4] at H
     have o9:decide (0≤fA)=true:=decide_eq_true c4
     clear c4
     by_cases c5:fA < (l0.length:Int)
     ·rw [if_pos c5] at H
      have uB:decide (fA < (l0.length:Int))=true:=decide_eq_true c5
      clear c5
      replace H:=Option.bind_eq_some_iff.mp H
      obtain ⟨ZL,xw,H⟩:=H
      replace H:(if ZL=true then (some fA) else (bu.l0 k1 l0 (l0.length:Int) (wrap64 (fA + 1))))=some r:=H
      have A6:=ah.mk xw
      clear xw
      by_cases c7:ZL=true
      ·subst c7
       have H1:(some fA)=some r:=by rw [if_pos rfl] at H;exact H
       clear H
       have H:=H1
       clear H1
       obtain rfl:=Option.some.inj H
       have Pb: 0≤(fA:Int):=of_decide_eq_true cW
       have Pc:fA < (l0.length:Int):=of_decide_eq_true cW
       obtain ⟨afg,acE,wB,wC,wD⟩:=xe yM.out fA Pb Pc
       cases acE
       replace wB:=(HB.out.cell (World.block_lt_of_cell? w _ wB)).trans wB
       replace wC:=(HB.out.cell (World.block_lt_of_cell? w _ wC)).trans wC
       replace wD:=(HB.out.cell (World.block_lt_of_cell? w _ wD)).trans wD
       replace Pb:=eq_true Pb
       replace Pc:=eq_true Pc
       go_wp2_with (first|(go_at_call 137;(with_reducible refine (kX.calls k1 ((dL l0 fA).f0) ((dL l0 fA).f1) ((dL l0 fA).f2) true _ A6.out).mono ?_);rintro e w8 ⟨rfl,hb⟩;have bB:=ah.mk (ay bN hb);clear HB;have HB:=bB;clear bB;(try clear hb);(try clear hb2);(try clear hk);(try clear hi)))
       go_ret
       exact ⟨cR,bN⟩
      ·replace c7:=Bool.eq_false_iff.mpr c7
       subst c7
       have H1:(bu.l0 k1 l0 (l0.length:Int) (wrap64 (fA + 1)))=some r:=by rw [if_neg (show ¬ (false=true) by decide)] at H;exact H
       clear H
       have H:=H1
       clear H1
       have H':=ah.mk H
       clear H
       have Pb: 0≤(fA:Int):=of_decide_eq_true cW
       have Pc:fA < (l0.length:Int):=of_decide_eq_true cW
       obtain ⟨afg,acE,wB,wC,wD⟩:=xe yM.out fA Pb Pc
       cases acE
       replace wB:=(HB.out.cell (World.block_lt_of_cell? w _ wB)).trans wB
       replace wC:=(HB.out.cell (World.block_lt_of_cell? w _ wC)).trans wC
       replace wD:=(HB.out.cell (World.block_lt_of_cell? w _ wD)).trans wD
       replace Pb:=eq_true Pb
       replace Pc:=eq_true Pc
       go_wp2_with (first|(go_at_call 137;(with_reducible refine (kX.calls k1 ((dL l0 fA).f0) ((dL l0 fA).f1) ((dL l0 fA).f2) false _ A6.out).mono ?_);rintro e w9 ⟨rfl,hb⟩;have bB:=ah.mk (ay bN hb);clear HB;have HB:=bB;clear bB;(try clear hb);(try clear hb2);(try clear hk);(try clear hi)))
       go_roundg k1
       case measure=>have:=uX.out;omega
       case rel=>exact ⟨(wrap64 (fA + 1)),ey,H',⟨j6⟩,⟨bN⟩⟩
     ·rw [if_neg c5] at H
      exact absurd H bn
    ·rw [if_neg c4] at H
     exact absurd H bn
   ·rw [if_neg c3] at H
    have pX:decide (fA < (l0.length:Int))=false:=decide_eq_false c3
    clear c3
    obtain rfl:=Option.some.inj H
    go_wp2
    go_ret
    exact ⟨cR,bN⟩
def bR.f (k:Nat) (l0:List (ij)):Option (Bool):=(bu.f k l0).bind fun Tz=>(some (decide (Tz≥0)))
set_option maxHeartbeats 8000000 in
set_option maxRecDepth 100000 in
theorem bR.calls (k:Nat) (A0:Option Addr) (c0:Nat) (l0:List (ij)) (r:Bool) (w:World) (zH:Kd.C CF w A0 l0.length l0) (hc0:l0.length≤c0) (h:bR.f k l0=some r):
 Calls Tryz.prog 136 #[.slice A0 l0.length c0,.func (.func 137) #[] #[]] w fun e w'=>e= .returned (.bool r)∧Below w.heap.size w w':=by
 have yM:=ah.mk zH
 have Rt:=ah.mk hc0
 clear zH hc0
 have HB:=ah.mk (Below.refl w.heap.size w)
 have H:((bu.f k l0).bind fun Tz=>(some (decide (Tz≥0))))=some r:=h
 clear h
 replace H:=Option.bind_eq_some_iff.mp H
 obtain ⟨Tz,zl,H⟩:=H
 replace H:(some (decide (Tz≥0)))=some r:=H
 have A3:=ah.mk zl
 clear zl
 obtain rfl:=Option.some.inj H
 go_enter Tryz.func136,Tryz.ntmps136
 go_wp2_with (first|((with_reducible refine aQ (f:=175) rfl ?_);refine cu (some 7) rfl rfl Tryz.func175 av rfl #[.slice A0 l0.length c0,.func (.func 137) #[] #[]] rfl cT ?_;(with_reducible refine (bu.calls k _ _ l0 Tz _ ?aX ?bT A3.out).mono ?_);(case aX=>repeat (first|exact yM.out|(with_reducible refine Kd.eJ ?_ _)|(with_reducible refine Kd.eK ?_ _)|(with_reducible refine Kd.fR ?_)));(case bT=>exact Rt.out);rintro e w4 ⟨rfl,hb⟩;refine ⟨_,rfl,?_⟩;have bB:=ah.mk (ay bN hb);clear HB;have HB:=bB;clear bB;(try clear hb);(try clear hb2);(try clear hk);(try clear hi)))
 go_ret
 exact ⟨cR,bN⟩
def jx.f (k:Nat) (bg:Int) (bI:ByteArray) (bJ:Bool) (cM:List ByteArray) (bO:ByteArray) (cU:ByteArray) (cV:Bool) (cg:List (ij)):Option (Bool):=(eH.f bg).bind fun TA=>(if TA=true then (if bI.toList=([]:List UInt8) then ((gy.f k bJ cM bO cU cV).bind fun GS=>(if GS=true then ((bR.f k cg).bind fun Bz=>(some (!Bz))) else (some false))) else (some false)) else (if bJ=true then (some false) else (if (cM.length:Int)=0 then (if (bO.toList == ([]:List UInt8) && (cU.toList == ([]:List UInt8) && (!cV)))=true then (some ((cg.length:Int) == 0)) else (some false)) else (some false))))
set_option maxHeartbeats 8000000 in
set_option maxRecDepth 100000 in
theorem jx.calls (k:Nat) (bg:Int) (bI:ByteArray) (bJ:Bool) (fk:Option Addr) (fo:Nat) (cM:List ByteArray) (bO:ByteArray) (cU:ByteArray) (cV:Bool) (fC:Option Addr) (fq:Nat) (cg:List (ij)) (r:Bool) (w:World) (tv:Kd.C Kd.string w fk cM.length cM) (tA:cM.length≤fo) (tB:Kd.C CF w fC cg.length cg) (tC:cg.length≤fq) (hG:aU w) (h:jx.f k bg bI bJ cM bO cU cV cg=some r):
 Calls Tryz.prog 90 #[.agg #[.int .u8 bg,.string bI,.bool bJ,.slice fk cM.length fo,.string bO,.string cU,.bool cV,.slice fC cg.length fq]] w fun e w'=>e= .returned (.bool r)∧Below w.heap.size w w':=by
 have LW:=Tryz.underlying35
 have Oi:=Tryz.underlying32
 have LP:=Tryz.underlying30
 have nI:=ah.mk tv
 have nJ:=ah.mk tA
 clear tv tA
 have pW:=ah.mk tB
 have sI:=ah.mk tC
 clear tB tC
 have HB:=ah.mk (Below.refl w.heap.size w)
 have HG:=ah.mk hG
 clear hG
 have H:((eH.f bg).bind fun TA=>(if TA=true then (if bI.toList=([]:List UInt8) then ((gy.f k bJ cM bO cU cV).bind fun GS=>(if GS=true then ((bR.f k cg).bind fun Bz=>(some (!Bz))) else (some false))) else (some false)) else (if bJ=true then (some false) else (if (cM.length:Int)=0 then (if (bO.toList == ([]:List UInt8) && (cU.toList == ([]:List UInt8) && (!cV)))=true then (some ((cg.length:Int) == 0)) else (some false)) else (some false)))))=some r:=h
 clear h
 replace H:=Option.bind_eq_some_iff.mp H
 obtain ⟨TA,nU,H⟩:=H
 replace H:(if TA=true then (if bI.toList=([]:List UInt8) then ((gy.f k bJ cM bO cU cV).bind fun GS=>(if GS=true then ((bR.f k cg).bind fun Bz=>(some (!Bz))) else (some false))) else (some false)) else (if bJ=true then (some false) else (if (cM.length:Int)=0 then (if (bO.toList == ([]:List UInt8) && (cU.toList == ([]:List UInt8) && (!cV)))=true then (some ((cg.length:Int) == 0)) else (some false)) else (some false))))=some r:=H
 have A2:=ah.mk nU
 clear nU
 by_cases c3:TA=true
 ·subst c3
  have H1:(if bI.toList=([]:List UInt8) then ((gy.f k bJ cM bO cU cV).bind fun GS=>(if GS=true then ((bR.f k cg).bind fun Bz=>(some (!Bz))) else (some false))) else (some false))=some r:=by rw [if_pos rfl] at H;exact H
  clear H
  have H:=H1
  clear H1
  by_cases c4:bI.toList=([]:List UInt8)
  ·rw [if_pos c4] at H
   have o9:(bI.toList == ([]:List UInt8))=true:=beq_iff_eq.mpr c4
   have GK:(bI.toList != ([]:List UInt8))=false:=bne_eq_false_iff_eq.mpr c4
   clear c4
   replace H:=Option.bind_eq_some_iff.mp H
   obtain ⟨GS,Me,H⟩:=H
   replace H:(if GS=true then ((bR.f k cg).bind fun Bz=>(some (!Bz))) else (some false))=some r:=H
   have A5:=ah.mk Me
   clear Me
   by_cases c6:GS=true
   ·subst c6
    have H1:((bR.f k cg).bind fun Bz=>(some (!Bz)))=some r:=by rw [if_pos rfl] at H;exact H
    clear H
    have H:=H1
    clear H1
    replace H:=Option.bind_eq_some_iff.mp H
    obtain ⟨Bz,Hg,H⟩:=H
    replace H:(some (!Bz))=some r:=H
    have A7:=ah.mk Hg
    clear Hg
    obtain rfl:=Option.some.inj H
    go_enter Tryz.func90,Tryz.ntmps90
    go_wp2_with (first|((with_reducible refine cC (N:=1) rfl ?_);(try (refine cO (by rfl) ?_;dsimp only));refine b9 ?hg (N:=1) ?hd (cs:=#[.int .u8 bg,.string bI,.bool bJ,.slice fk cM.length fo,.string bO,.string cU,.bool cV,.slice fC cg.length fq]) (t:=35) ?hr ?_;(case hd=>rfl);(case hg=>rfl);(case hr=>first|(go_simp;done)|(go_simp;rfl));intro eU hg w8 cJ hb;have bB:=ah.mk (ay bN hb);have bL:=ah.mk (cJ);have bY:=ah.mk ((dz:w.heap.size≤eU));have cK:=ah.mk ((dz:w.heap.size≤eU));clear HB;have HB:=bB;have cQ:=bL;have Ht:=bY;have EY:=cK;clear bB bL bY cK;clear hb cJ hg;have qF:w8.cell? ⟨eU,0,none⟩=some (.int .u8 bg):=(af cQ.out 0).trans rfl;have qG:w8.cell? ⟨eU,1,none⟩=some (.string bI):=(af cQ.out 1).trans rfl;have xp:w8.cell? ⟨eU,2,none⟩=some (.bool bJ):=(af cQ.out 2).trans rfl;have zD:w8.cell? ⟨eU,3,none⟩=some (.slice fk cM.length fo):=(af cQ.out 3).trans rfl;have zE:w8.cell? ⟨eU,4,none⟩=some (.string bO):=(af cQ.out 4).trans rfl;have K2:w8.cell? ⟨eU,5,none⟩=some (.string cU):=(af cQ.out 5).trans rfl;have K3:w8.cell? ⟨eU,6,none⟩=some (.bool cV):=(af cQ.out 6).trans rfl;have K4:w8.cell? ⟨eU,7,none⟩=some (.slice fC cg.length fq):=(af cQ.out 7).trans rfl;have qH:=aa cQ.out 0;have qI:=aa cQ.out 1;have xq:=aa cQ.out 2;have zF:=aa cQ.out 3;have zG:=aa cQ.out 4;have K5:=aa cQ.out 5;have K6:=aa cQ.out 6;have K7:=aa cQ.out 7)|((with_reducible refine aQ (f:=135) rfl ?_);refine cu (some 5) rfl rfl Tryz.func135 av rfl #[.int .u8 bg] rfl cT ?_;(with_reducible refine (eH.calls bg true _ A2.out).mono ?_);rintro e w' ⟨rfl,⟨nd,rfl⟩⟩;refine ⟨_,rfl,?_⟩)|(go_at_call 20;(with_reducible refine (gy.calls k bJ _ _ cM bO cU cV true _ ?aX ?bT ?eo A5.out).mono ?_);(case aX=>repeat (first|exact (Kd.fy nI.out pR)|(with_reducible refine Kd.eJ ?_ _)|(with_reducible refine Kd.eK ?_ _)|(with_reducible refine Kd.fR ?_)));(case bT=>exact nJ.out);(case eo=>exact aU.below HG.out pR);rintro e uk ⟨rfl,hb⟩;have bB:=ah.mk (aM (g:=eU) (o:= .cells #[.int .u8 bg,.string bI,.bool bJ,.slice fk cM.length fo,.string bO,.string cU,.bool cV,.slice fC cg.length fq] 35 (0,0)) IE hb);have bL:=ah.mk (ay pR hb);clear cQ;clear HB;have cQ:=bB;have HB:=bL;clear bB bL;(try clear hb);(try clear hb2);(try clear hk);(try clear hi);have tD:uk.cell? ⟨eU,0,none⟩=some (.int .u8 bg):=(af cQ.out 0).trans rfl;have tE:uk.cell? ⟨eU,1,none⟩=some (.string bI):=(af cQ.out 1).trans rfl;have tF:uk.cell? ⟨eU,2,none⟩=some (.bool bJ):=(af cQ.out 2).trans rfl;have yh:uk.cell? ⟨eU,3,none⟩=some (.slice fk cM.length fo):=(af cQ.out 3).trans rfl;have yj:uk.cell? ⟨eU,4,none⟩=some (.string bO):=(af cQ.out 4).trans rfl;have Av:uk.cell? ⟨eU,5,none⟩=some (.string cU):=(af cQ.out 5).trans rfl;have Aw:uk.cell? ⟨eU,6,none⟩=some (.bool cV):=(af cQ.out 6).trans rfl;have Ax:uk.cell? ⟨eU,7,none⟩=some (.slice fC cg.length fq):=(af cQ.out 7).trans rfl;have tG:=aa cQ.out 0;have tH:=aa cQ.out 1;have tI:=aa cQ.out 2;have yl:=aa cQ.out 3;have ym:=aa cQ.out 4;have Ay:=aa cQ.out 5;have Az:=aa cQ.out 6;have AA:=aa cQ.out 7)|(go_at_call 136;(with_reducible refine (bR.calls k _ _ cg Bz _ ?aX ?bT A7.out).mono ?_);(case aX=>repeat (first|exact (Kd.fy pW.out HB.out)|(with_reducible refine Kd.eJ ?_ _)|(with_reducible refine Kd.eK ?_ _)|(with_reducible refine Kd.fR ?_)));(case bT=>exact sI.out);rintro e Rv ⟨rfl,hb⟩;have bB:=ah.mk (aM (g:=eU) (o:= .cells #[.int .u8 bg,.string bI,.bool bJ,.slice fk cM.length fo,.string bO,.string cU,.bool cV,.slice fC cg.length fq] 35 (0,0)) IE hb);have bL:=ah.mk (ay pR hb);clear cQ;clear HB;have cQ:=bB;have HB:=bL;clear bB bL;(try clear hb);(try clear hb2);(try clear hk);(try clear hi)))
    go_ret
    exact ⟨cR,pR⟩
   ·replace c6:=Bool.eq_false_iff.mpr c6
    subst c6
    have H1:(some false)=some r:=by rw [if_neg (show ¬ (false=true) by decide)] at H;exact H
    clear H
    have H:=H1
    clear H1
    obtain rfl:=Option.some.inj H
    go_enter Tryz.func90,Tryz.ntmps90
    go_wp2_with (first|((with_reducible refine cC (N:=1) rfl ?_);(try (refine cO (by rfl) ?_;dsimp only));refine b9 ?hg (N:=1) ?hd (cs:=#[.int .u8 bg,.string bI,.bool bJ,.slice fk cM.length fo,.string bO,.string cU,.bool cV,.slice fC cg.length fq]) (t:=35) ?hr ?_;(case hd=>rfl);(case hg=>rfl);(case hr=>first|(go_simp;done)|(go_simp;rfl));intro eU hg mA cJ hb;have bB:=ah.mk (ay bN hb);have bL:=ah.mk (cJ);have bY:=ah.mk ((dz:w.heap.size≤eU));have cK:=ah.mk ((dz:w.heap.size≤eU));clear HB;have HB:=bB;have cQ:=bL;have Ht:=bY;have EY:=cK;clear bB bL bY cK;clear hb cJ hg;have rP:mA.cell? ⟨eU,0,none⟩=some (.int .u8 bg):=(af cQ.out 0).trans rfl;have rQ:mA.cell? ⟨eU,1,none⟩=some (.string bI):=(af cQ.out 1).trans rfl;have tJ:mA.cell? ⟨eU,2,none⟩=some (.bool bJ):=(af cQ.out 2).trans rfl;have tK:mA.cell? ⟨eU,3,none⟩=some (.slice fk cM.length fo):=(af cQ.out 3).trans rfl;have tL:mA.cell? ⟨eU,4,none⟩=some (.string bO):=(af cQ.out 4).trans rfl;have tM:mA.cell? ⟨eU,5,none⟩=some (.string cU):=(af cQ.out 5).trans rfl;have tO:mA.cell? ⟨eU,6,none⟩=some (.bool cV):=(af cQ.out 6).trans rfl;have tP:mA.cell? ⟨eU,7,none⟩=some (.slice fC cg.length fq):=(af cQ.out 7).trans rfl;have rR:=aa cQ.out 0;have rS:=aa cQ.out 1;have tQ:=aa cQ.out 2;have tR:=aa cQ.out 3;have tS:=aa cQ.out 4;have tT:=aa cQ.out 5;have tU:=aa cQ.out 6;have tV:=aa cQ.out 7)|((with_reducible refine aQ (f:=135) rfl ?_);refine cu (some 5) rfl rfl Tryz.func135 av rfl #[.int .u8 bg] rfl cT ?_;(with_reducible refine (eH.calls bg true _ A2.out).mono ?_);rintro e w' ⟨rfl,⟨nd,rfl⟩⟩;refine ⟨_,rfl,?_⟩)|(go_at_call 20;(with_reducible refine (gy.calls k bJ _ _ cM bO cU cV false _ ?aX ?bT ?eo A5.out).mono ?_);(case aX=>repeat (first|exact (Kd.fy nI.out pR)|(with_reducible refine Kd.eJ ?_ _)|(with_reducible refine Kd.eK ?_ _)|(with_reducible refine Kd.fR ?_)));(case bT=>exact nJ.out);(case eo=>exact aU.below HG.out pR);rintro e Hj ⟨rfl,hb⟩;have bB:=ah.mk (aM (g:=eU) (o:= .cells #[.int .u8 bg,.string bI,.bool bJ,.slice fk cM.length fo,.string bO,.string cU,.bool cV,.slice fC cg.length fq] 35 (0,0)) IE hb);have bL:=ah.mk (ay pR hb);clear cQ;clear HB;have cQ:=bB;have HB:=bL;clear bB bL;(try clear hb);(try clear hb2);(try clear hk);(try clear hi)))
    go_ret
    exact ⟨cR,pR⟩
  ·rw [if_neg c4] at H
   have o9:(bI.toList == ([]:List UInt8))=false:=beq_eq_false_iff_ne.mpr c4
   have GK:(bI.toList != ([]:List UInt8))=true:=bne_iff_ne.mpr c4
   obtain rfl:=Option.some.inj H
   go_enter Tryz.func90,Tryz.ntmps90
   go_wp2_with (first|((with_reducible refine cC (N:=1) rfl ?_);(try (refine cO (by rfl) ?_;dsimp only));refine b9 ?hg (N:=1) ?hd (cs:=#[.int .u8 bg,.string bI,.bool bJ,.slice fk cM.length fo,.string bO,.string cU,.bool cV,.slice fC cg.length fq]) (t:=35) ?hr ?_;(case hd=>rfl);(case hg=>rfl);(case hr=>first|(go_simp;done)|(go_simp;rfl));intro eU hg w16 cJ hb;have bB:=ah.mk (ay bN hb);have bL:=ah.mk (cJ);have bY:=ah.mk ((dz:w.heap.size≤eU));have cK:=ah.mk ((dz:w.heap.size≤eU));clear HB;have HB:=bB;have cQ:=bL;have Ht:=bY;have EY:=cK;clear bB bL bY cK;clear hb cJ hg;have tW:w16.cell? ⟨eU,0,none⟩=some (.int .u8 bg):=(af cQ.out 0).trans rfl;have tX:w16.cell? ⟨eU,1,none⟩=some (.string bI):=(af cQ.out 1).trans rfl;have AB:w16.cell? ⟨eU,2,none⟩=some (.bool bJ):=(af cQ.out 2).trans rfl;have Jt:w16.cell? ⟨eU,3,none⟩=some (.slice fk cM.length fo):=(af cQ.out 3).trans rfl;have Ju:w16.cell? ⟨eU,4,none⟩=some (.string bO):=(af cQ.out 4).trans rfl;have Jv:w16.cell? ⟨eU,5,none⟩=some (.string cU):=(af cQ.out 5).trans rfl;have Jw:w16.cell? ⟨eU,6,none⟩=some (.bool cV):=(af cQ.out 6).trans rfl;have Jx:w16.cell? ⟨eU,7,none⟩=some (.slice fC cg.length fq):=(af cQ.out 7).trans rfl;have tY:=aa cQ.out 0;have tZ:=aa cQ.out 1;have AE:=aa cQ.out 2;have Jy:=aa cQ.out 3;have Jz:=aa cQ.out 4;have JA:=aa cQ.out 5;have JB:=aa cQ.out 6;have JC:=aa cQ.out 7)|((with_reducible refine aQ (f:=135) rfl ?_);refine cu (some 5) rfl rfl Tryz.func135 av rfl #[.int .u8 bg] rfl cT ?_;(with_reducible refine (eH.calls bg true _ A2.out).mono ?_);rintro e w' ⟨rfl,⟨nd,rfl⟩⟩;refine ⟨_,rfl,?_⟩))
   go_ret
   exact ⟨cR,pR⟩
 ·replace c3:=Bool.eq_false_iff.mpr c3
  subst c3
  have H1:(if bJ=true then (some false) else (if (cM.length:Int)=0 then (if (bO.toList == ([]:List UInt8) && (cU.toList == ([]:List UInt8) && (!cV)))=true then (some ((cg.length:Int) == 0)) else (some false)) else (some false)))=some r:=by rw [if_neg (show ¬ (false=true) by decide)] at H;exact H
  clear H
  have H:=H1
  clear H1
  by_cases c18:bJ=true
  ·subst c18
   have H1:(some false)=some r:=by rw [if_pos rfl] at H;exact H
   clear H
   have H:=H1
   clear H1
   obtain rfl:=Option.some.inj H
   go_enter Tryz.func90,Tryz.ntmps90
   go_wp2_with (first|((with_reducible refine cC (N:=1) rfl ?_);(try (refine cO (by rfl) ?_;dsimp only));refine b9 ?hg (N:=1) ?hd (cs:=#[.int .u8 bg,.string bI,.bool true,.slice fk cM.length fo,.string bO,.string cU,.bool cV,.slice fC cg.length fq]) (t:=35) ?hr ?_;(case hd=>rfl);(case hg=>rfl);(case hr=>first|(go_simp;done)|(go_simp;rfl));intro eU hg ze cJ hb;have bB:=ah.mk (ay bN hb);have bL:=ah.mk (cJ);have bY:=ah.mk ((dz:w.heap.size≤eU));have cK:=ah.mk ((dz:w.heap.size≤eU));clear HB;have HB:=bB;have cQ:=bL;have Ht:=bY;have EY:=cK;clear bB bL bY cK;clear hb cJ hg;have EF:ze.cell? ⟨eU,0,none⟩=some (.int .u8 bg):=(af cQ.out 0).trans rfl;have EG:ze.cell? ⟨eU,1,none⟩=some (.string bI):=(af cQ.out 1).trans rfl;have Zn:ze.cell? ⟨eU,2,none⟩=some (.bool true):=(af cQ.out 2).trans rfl;have ajb:ze.cell? ⟨eU,3,none⟩=some (.slice fk cM.length fo):=(af cQ.out 3).trans rfl;have ajc:ze.cell? ⟨eU,4,none⟩=some (.string bO):=(af cQ.out 4).trans rfl;have ajd:ze.cell? ⟨eU,5,none⟩=some (.string cU):=(af cQ.out 5).trans rfl;have aje:ze.cell? ⟨eU,6,none⟩=some (.bool cV):=(af cQ.out 6).trans rfl;have ajf:ze.cell? ⟨eU,7,none⟩=some (.slice fC cg.length fq):=(af cQ.out 7).trans rfl;have EH:=aa cQ.out 0;have EI:=aa cQ.out 1;have Zo:=aa cQ.out 2;have ajg:=aa cQ.out 3;have ajh:=aa cQ.out 4;have aji:=aa cQ.out 5;have ajj:=aa cQ.out 6;have ajk:=aa cQ.out 7)|((with_reducible refine aQ (f:=135) rfl ?_);refine cu (some 5) rfl rfl Tryz.func135 av rfl #[.int .u8 bg] rfl cT ?_;(with_reducible refine (eH.calls bg false _ A2.out).mono ?_);rintro e w' ⟨rfl,⟨nd,rfl⟩⟩;refine ⟨_,rfl,?_⟩))
   go_ret
   exact ⟨cR,pR⟩
  ·replace c18:=Bool.eq_false_iff.mpr c18
   subst c18
   have H1:(if (cM.length:Int)=0 then (if (bO.toList == ([]:List UInt8) && (cU.toList == ([]:List UInt8) && (!cV)))=true then (some ((cg.length:Int) == 0)) else (some false)) else (some false))=some r:=by rw [if_neg (show ¬ (false=true) by decide)] at H;exact H
   clear H
   have H:=H1
   clear H1
   by_cases c21:(cM.length:Int)=0
   ·rw [if_pos c21] at H
    have Qw:((cM.length:Int) == 0)=true:=beq_iff_eq.mpr c21
    have Ww:((cM.length:Int) != 0)=false:=bne_eq_false_iff_eq.mpr c21
    clear c21
    by_cases GG:(bO.toList == ([]:List UInt8) && (cU.toList == ([]:List UInt8) && (!cV)))=true
    ·rw [if_pos GG] at H
     have Qx:(bO.toList == ([]:List UInt8) && (cU.toList == ([]:List UInt8) && (!cV)))=true:=GG
     have Pd:∀ l:List UInt8,l.isEmpty=(l == []):=fun l=>by cases l<;>rfl
     have ang:(bO.toList.isEmpty && (cU.toList.isEmpty && (!cV)))=true:=by rw [Pd,Pd];exact Qx
     clear Pd
     (try (have afh:decide (bO.toList=([]:List UInt8) && (cU.toList == ([]:List UInt8) && (!cV)))=true:=by simpa using GG))
     (try (have afi:(bO.toList == ([]:List UInt8) && (cU.toList == ([]:List UInt8) && (!cV)))=true:=by simpa using GG))
     clear GG
     obtain rfl:=Option.some.inj H
     go_enter Tryz.func90,Tryz.ntmps90
     go_wp2_with (first|((with_reducible refine cC (N:=1) rfl ?_);(try (refine cO (by rfl) ?_;dsimp only));refine b9 ?hg (N:=1) ?hd (cs:=#[.int .u8 bg,.string bI,.bool false,.slice fk cM.length fo,.string bO,.string cU,.bool cV,.slice fC cg.length fq]) (t:=35) ?hr ?_;(case hd=>rfl);(case hg=>rfl);(case hr=>first|(go_simp;done)|(go_simp;rfl));intro eU hg Mo cJ hb;have bB:=ah.mk (ay bN hb);have bL:=ah.mk (cJ);have bY:=ah.mk ((dz:w.heap.size≤eU));have cK:=ah.mk ((dz:w.heap.size≤eU));clear HB;have HB:=bB;have cQ:=bL;have Ht:=bY;have EY:=cK;clear bB bL bY cK;clear hb cJ hg;have vS:Mo.cell? ⟨eU,0,none⟩=some (.int .u8 bg):=(af cQ.out 0).trans rfl;have vT:Mo.cell? ⟨eU,1,none⟩=some (.string bI):=(af cQ.out 1).trans rfl;have El:Mo.cell? ⟨eU,2,none⟩=some (.bool false):=(af cQ.out 2).trans rfl;have Em:Mo.cell? ⟨eU,3,none⟩=some (.slice fk cM.length fo):=(af cQ.out 3).trans rfl;have En:Mo.cell? ⟨eU,4,none⟩=some (.string bO):=(af cQ.out 4).trans rfl;have Eo:Mo.cell? ⟨eU,5,none⟩=some (.string cU):=(af cQ.out 5).trans rfl;have Ep:Mo.cell? ⟨eU,6,none⟩=some (.bool cV):=(af cQ.out 6).trans rfl;have Er:Mo.cell? ⟨eU,7,none⟩=some (.slice fC cg.length fq):=(af cQ.out 7).trans rfl;have vU:=aa cQ.out 0;have vV:=aa cQ.out 1;have Es:=aa cQ.out 2;have Et:=aa cQ.out 3;have Eu:=aa cQ.out 4;have Ew:=aa cQ.out 5;have Ex:=aa cQ.out 6;have Ey:=aa cQ.out 7)|((with_reducible refine aQ (f:=135) rfl ?_);refine cu (some 5) rfl rfl Tryz.func135 av rfl #[.int .u8 bg] rfl cT ?_;(with_reducible refine (eH.calls bg false _ A2.out).mono ?_);rintro e w' ⟨rfl,⟨nd,rfl⟩⟩;refine ⟨_,rfl,?_⟩))
     go_ret
     exact ⟨cR,pR⟩
    ·rw [if_neg GG] at H
     have Qx:(bO.toList == ([]:List UInt8) && (cU.toList == ([]:List UInt8) && (!cV)))=false:=by simpa using GG
     have Pd:∀ l:List UInt8,l.isEmpty=(l == []):=fun l=>by cases l<;>rfl
     have ang:(bO.toList.isEmpty && (cU.toList.isEmpty && (!cV)))=false:=by rw [Pd,Pd];exact Qx
     clear Pd
     (try (have afh:decide (bO.toList=([]:List UInt8) && (cU.toList == ([]:List UInt8) && (!cV)))=false:=by simpa using GG))
     (try (have afi:(bO.toList == ([]:List UInt8) && (cU.toList == ([]:List UInt8) && (!cV)))=false:=by simpa using GG))
     (try (have apF: ¬ (bO.toList=([]:List UInt8) && (cU.toList == ([]:List UInt8) && (!cV))):=by simpa using GG))
     clear GG
     obtain rfl:=Option.some.inj H
     go_enter Tryz.func90,Tryz.ntmps90
     go_wp2_with (first|((with_reducible refine cC (N:=1) rfl ?_);(try (refine cO (by rfl) ?_;dsimp only));refine b9 ?hg (N:=1) ?hd (cs:=#[.int .u8 bg,.string bI,.bool false,.slice fk cM.length fo,.string bO,.string cU,.bool cV,.slice fC cg.length fq]) (t:=35) ?hr ?_;(case hd=>rfl);(case hg=>rfl);(case hr=>first|(go_simp;done)|(go_simp;rfl));intro eU hg Tf cJ hb;have bB:=ah.mk (ay bN hb);have bL:=ah.mk (cJ);have bY:=ah.mk ((dz:w.heap.size≤eU));have cK:=ah.mk ((dz:w.heap.size≤eU));clear HB;have HB:=bB;have cQ:=bL;have Ht:=bY;have EY:=cK;clear bB bL bY cK;clear hb cJ hg;have I9:Tf.cell? ⟨eU,0,none⟩=some (.int .u8 bg):=(af cQ.out 0).trans rfl;have Ja:Tf.cell? ⟨eU,1,none⟩=some (.string bI):=(af cQ.out 1).trans rfl;have Jb:Tf.cell? ⟨eU,2,none⟩=some (.bool false):=(af cQ.out 2).trans rfl;have XJ:Tf.cell? ⟨eU,3,none⟩=some (.slice fk cM.length fo):=(af cQ.out 3).trans rfl;have XK:Tf.cell? ⟨eU,4,none⟩=some (.string bO):=(af cQ.out 4).trans rfl;have ajl:Tf.cell? ⟨eU,5,none⟩=some (.string cU):=(af cQ.out 5).trans rfl;have ajm:Tf.cell? ⟨eU,6,none⟩=some (.bool cV):=(af cQ.out 6).trans rfl;have ajn:Tf.cell? ⟨eU,7,none⟩=some (.slice fC cg.length fq):=(af cQ.out 7).trans rfl;have Jc:=aa cQ.out 0;have Jd:=aa cQ.out 1;have Je:=aa cQ.out 2;have XL:=aa cQ.out 3;have XM:=aa cQ.out 4;have ajo:=aa cQ.out 5;have ajp:=aa cQ.out 6;have ajq:=aa cQ.out 7)|((with_reducible refine aQ (f:=135) rfl ?_);refine cu (some 5) rfl rfl Tryz.func135 av rfl #[.int .u8 bg] rfl cT ?_;(with_reducible refine (eH.calls bg false _ A2.out).mono ?_);rintro e w' ⟨rfl,⟨nd,rfl⟩⟩;refine ⟨_,rfl,?_⟩))
     go_ret
     exact ⟨cR,pR⟩
   ·rw [if_neg c21] at H
    have Qw:((cM.length:Int) == 0)=false:=beq_eq_false_iff_ne.mpr c21
    have Ww:((cM.length:Int) != 0)=true:=bne_iff_ne.mpr c21
    have Sw: ¬ (cM= []):=fun h_ =>c21 (by rw [h_];rfl)
    obtain rfl:=Option.some.inj H
    go_enter Tryz.func90,Tryz.ntmps90
    go_wp2_with (first|((with_reducible refine cC (N:=1) rfl ?_);(try (refine cO (by rfl) ?_;dsimp only));refine b9 ?hg (N:=1) ?hd (cs:=#[.int .u8 bg,.string bI,.bool false,.slice fk cM.length fo,.string bO,.string cU,.bool cV,.slice fC cg.length fq]) (t:=35) ?hr ?_;(case hd=>rfl);(case hg=>rfl);(case hr=>first|(go_simp;done)|(go_simp;rfl));intro eU hg VO cJ hb;have bB:=ah.mk (ay bN hb);have bL:=ah.mk (cJ);have bY:=ah.mk ((dz:w.heap.size≤eU));have cK:=ah.mk ((dz:w.heap.size≤eU));clear HB;have HB:=bB;have cQ:=bL;have Ht:=bY;have EY:=cK;clear bB bL bY cK;clear hb cJ hg;have Ez:VO.cell? ⟨eU,0,none⟩=some (.int .u8 bg):=(af cQ.out 0).trans rfl;have EA:VO.cell? ⟨eU,1,none⟩=some (.string bI):=(af cQ.out 1).trans rfl;have EB:VO.cell? ⟨eU,2,none⟩=some (.bool false):=(af cQ.out 2).trans rfl;have JL:VO.cell? ⟨eU,3,none⟩=some (.slice fk cM.length fo):=(af cQ.out 3).trans rfl;have JM:VO.cell? ⟨eU,4,none⟩=some (.string bO):=(af cQ.out 4).trans rfl;have JN:VO.cell? ⟨eU,5,none⟩=some (.string cU):=(af cQ.out 5).trans rfl;have JO:VO.cell? ⟨eU,6,none⟩=some (.bool cV):=(af cQ.out 6).trans rfl;have JP:VO.cell? ⟨eU,7,none⟩=some (.slice fC cg.length fq):=(af cQ.out 7).trans rfl;have EC:=aa cQ.out 0;have ED:=aa cQ.out 1;have EE:=aa cQ.out 2;have JQ:=aa cQ.out 3;have JR:=aa cQ.out 4;have JS:=aa cQ.out 5;have JT:=aa cQ.out 6;have JU:=aa cQ.out 7)|((with_reducible refine aQ (f:=135) rfl ?_);refine cu (some 5) rfl rfl Tryz.func135 av rfl #[.int .u8 bg] rfl cT ?_;(with_reducible refine (eH.calls bg false _ A2.out).mono ?_);rintro e w' ⟨rfl,⟨nd,rfl⟩⟩;refine ⟨_,rfl,?_⟩))
    go_ret
    exact ⟨cR,pR⟩
def kQ.f (k:Nat) (bg:Int) (bI:ByteArray) (bJ:Bool) (cM:List ByteArray) (bO:ByteArray) (cU:ByteArray) (cV:Bool) (cg:List (ij)):Option (Bool):=(jx.f k bg bI bJ cM bO cU cV cg).bind fun TB=>(if TB=true then ((cw.f k bg bI bJ cM bO cU cV cg).bind fun wS=>((ak.f k wS).bind fun qi=>(if qi.2.2.2.2.2.2.2.2=0 then (if qi.1=bg then (some (qi.2.1.toList == bI.toList)) else (some false)) else (some false)))) else (some false))
set_option maxHeartbeats 8000000 in
set_option maxRecDepth 100000 in
theorem kQ.calls (k:Nat) (bg:Int) (bI:ByteArray) (bJ:Bool) (fk:Option Addr) (fo:Nat) (cM:List ByteArray) (bO:ByteArray) (cU:ByteArray) (cV:Bool) (fC:Option Addr) (fq:Nat) (cg:List (ij)) (r:Bool) (w:World) (tv:Kd.C Kd.string w fk cM.length cM) (tA:cM.length≤fo) (tB:Kd.C CF w fC cg.length cg) (tC:cg.length≤fq) (hG:aU w) (h:kQ.f k bg bI bJ cM bO cU cV cg=some r):
 Calls Tryz.prog 34 #[.agg #[.int .u8 bg,.string bI,.bool bJ,.slice fk cM.length fo,.string bO,.string cU,.bool cV,.slice fC cg.length fq]] w fun e w'=>e= .returned (.bool r)∧Below w.heap.size w w':=by
 have LW:=Tryz.underlying35
 have nI:=ah.mk tv
 have nJ:=ah.mk tA
 clear tv tA
 have pW:=ah.mk tB
 have sI:=ah.mk tC
 clear tB tC
 have HB:=ah.mk (Below.refl w.heap.size w)
 have HG:=ah.mk hG
 clear hG
 have H:((jx.f k bg bI bJ cM bO cU cV cg).bind fun TB=>(if TB=true then ((cw.f k bg bI bJ cM bO cU cV cg).bind fun wS=>((ak.f k wS).bind fun qi=>(if qi.2.2.2.2.2.2.2.2=0 then (if qi.1=bg then (some (qi.2.1.toList == bI.toList)) else (some false)) else (some false)))) else (some false)))=some r:=h
 clear h
 replace H:=Option.bind_eq_some_iff.mp H
 obtain ⟨TB,nU,H⟩:=H
 replace H:(if TB=true then ((cw.f k bg bI bJ cM bO cU cV cg).bind fun wS=>((ak.f k wS).bind fun qi=>(if qi.2.2.2.2.2.2.2.2=0 then (if qi.1=bg then (some (qi.2.1.toList == bI.toList)) else (some false)) else (some false)))) else (some false))=some r:=H
 have A2:=ah.mk nU
 clear nU
 by_cases c3:TB=true
 ·subst c3
  have H1:((cw.f k bg bI bJ cM bO cU cV cg).bind fun wS=>((ak.f k wS).bind fun qi=>(if qi.2.2.2.2.2.2.2.2=0 then (if qi.1=bg then (some (qi.2.1.toList == bI.toList)) else (some false)) else (some false))))=some r:=by rw [if_pos rfl] at H;exact H
  clear H
  have H:=H1
  clear H1
  replace H:=Option.bind_eq_some_iff.mp H
  obtain ⟨wS,Bg,H⟩:=H
  replace H:((ak.f k wS).bind fun qi=>(if qi.2.2.2.2.2.2.2.2=0 then (if qi.1=bg then (some (qi.2.1.toList == bI.toList)) else (some false)) else (some false)))=some r:=H
  have A4:=ah.mk Bg
  clear Bg
  replace H:=Option.bind_eq_some_iff.mp H
  obtain ⟨⟨K8,ZM,acF,acG,acH,acI,acJ,acK,K9⟩,Me,H⟩:=H
  replace H:(if K9=0 then (if K8=bg then (some (ZM.toList == bI.toList)) else (some false)) else (some false))=some r:=H
  have A5:=ah.mk Me
  clear Me
  by_cases c6:K9=0
  ·rw [if_pos c6] at H
   have pP:(K9 == 0)=true:=beq_iff_eq.mpr c6
   have zC:(K9 != 0)=false:=bne_eq_false_iff_eq.mpr c6
   clear c6
   by_cases c7:K8=bg
   ·rw [if_pos c7] at H
    have GH:(K8 == bg)=true:=beq_iff_eq.mpr c7
    have Ot:(K8 != bg)=false:=bne_eq_false_iff_eq.mpr c7
    clear c7
    obtain rfl:=Option.some.inj H
    go_enter Tryz.func34,Tryz.ntmps34
    go_wp2_with (first|((with_reducible refine cC (N:=1) rfl ?_);refine b9 ?hg (N:=1) ?hd (cs:=#[.int .u8 bg,.string bI,.bool bJ,.slice fk cM.length fo,.string bO,.string cU,.bool cV,.slice fC cg.length fq]) (t:=35) ?hr ?_;(case hd=>rfl);(case hg=>rfl);(case hr=>first|(go_simp;done)|(go_simp;rfl));intro dZ hg w8 cJ hb;have bB:=ah.mk (ay bN hb);have bL:=ah.mk (cJ);have bY:=ah.mk ((dz:w.heap.size≤dZ));have cK:=ah.mk ((dz:w.heap.size≤dZ));clear HB;have HB:=bB;have cv:=bL;have WG:=bY;have GZ:=cK;clear bB bL bY cK;clear hb cJ hg;have qF:w8.cell? ⟨dZ,0,none⟩=some (.int .u8 bg):=(af cv.out 0).trans rfl;have qG:w8.cell? ⟨dZ,1,none⟩=some (.string bI):=(af cv.out 1).trans rfl;have xp:w8.cell? ⟨dZ,2,none⟩=some (.bool bJ):=(af cv.out 2).trans rfl;have zD:w8.cell? ⟨dZ,3,none⟩=some (.slice fk cM.length fo):=(af cv.out 3).trans rfl;have zE:w8.cell? ⟨dZ,4,none⟩=some (.string bO):=(af cv.out 4).trans rfl;have K2:w8.cell? ⟨dZ,5,none⟩=some (.string cU):=(af cv.out 5).trans rfl;have K3:w8.cell? ⟨dZ,6,none⟩=some (.bool cV):=(af cv.out 6).trans rfl;have K4:w8.cell? ⟨dZ,7,none⟩=some (.slice fC cg.length fq):=(af cv.out 7).trans rfl;have qH:=aa cv.out 0;have qI:=aa cv.out 1;have xq:=aa cv.out 2;have zF:=aa cv.out 3;have zG:=aa cv.out 4;have K5:=aa cv.out 5;have K6:=aa cv.out 6;have K7:=aa cv.out 7)|((with_reducible refine aQ (f:=90) rfl ?_);refine cu (some 6) rfl rfl Tryz.func90 av rfl #[.agg #[.int .u8 bg,.string bI,.bool bJ,.slice fk cM.length fo,.string bO,.string cU,.bool cV,.slice fC cg.length fq]] rfl cT ?_;(with_reducible refine (jx.calls k bg bI bJ _ _ cM bO cU cV _ _ cg true _ ?aX ?bT ?eo ?fS ?gG A2.out).mono ?_);(case aX=>repeat (first|exact (Kd.fy nI.out HB.out)|(with_reducible refine Kd.eJ ?_ _)|(with_reducible refine Kd.eK ?_ _)|(with_reducible refine Kd.fR ?_)));(case bT=>exact nJ.out);(case eo=>repeat (first|exact (Kd.fy pW.out HB.out)|(with_reducible refine Kd.eJ ?_ _)|(with_reducible refine Kd.eK ?_ _)|(with_reducible refine Kd.fR ?_)));(case fS=>exact sI.out);(case gG=>exact aU.below HG.out lf);rintro e uk ⟨rfl,hb⟩;refine ⟨_,rfl,?_⟩;have bB:=ah.mk (aM (g:=dZ) (o:= .cells #[.int .u8 bg,.string bI,.bool bJ,.slice fk cM.length fo,.string bO,.string cU,.bool cV,.slice fC cg.length fq] 35 (0,0)) qC hb);have bL:=ah.mk (ay lf hb);clear cv;clear HB;have cv:=bB;have HB:=bL;clear bB bL;(try clear hb);(try clear hb2);(try clear hk);(try clear hi);have tD:uk.cell? ⟨dZ,0,none⟩=some (.int .u8 bg):=(af cv.out 0).trans rfl;have tE:uk.cell? ⟨dZ,1,none⟩=some (.string bI):=(af cv.out 1).trans rfl;have tF:uk.cell? ⟨dZ,2,none⟩=some (.bool bJ):=(af cv.out 2).trans rfl;have yh:uk.cell? ⟨dZ,3,none⟩=some (.slice fk cM.length fo):=(af cv.out 3).trans rfl;have yj:uk.cell? ⟨dZ,4,none⟩=some (.string bO):=(af cv.out 4).trans rfl;have Av:uk.cell? ⟨dZ,5,none⟩=some (.string cU):=(af cv.out 5).trans rfl;have Aw:uk.cell? ⟨dZ,6,none⟩=some (.bool cV):=(af cv.out 6).trans rfl;have Ax:uk.cell? ⟨dZ,7,none⟩=some (.slice fC cg.length fq):=(af cv.out 7).trans rfl;have tG:=aa cv.out 0;have tH:=aa cv.out 1;have tI:=aa cv.out 2;have yl:=aa cv.out 3;have ym:=aa cv.out 4;have Ay:=aa cv.out 5;have Az:=aa cv.out 6;have AA:=aa cv.out 7)|((with_reducible refine aQ (f:=89) rfl ?_);refine cu (some 10) rfl rfl Tryz.func89 av rfl #[.agg #[.int .u8 bg,.string bI,.bool bJ,.slice fk cM.length fo,.string bO,.string cU,.bool cV,.slice fC cg.length fq]] rfl cT ?_;(with_reducible refine (cw.calls k bg bI bJ _ _ cM bO cU cV _ _ cg wS _ ?aX ?bT ?eo ?fS ?gG A4.out).mono ?_);(case aX=>repeat (first|exact (Kd.fy nI.out HB.out)|(with_reducible refine Kd.eJ ?_ _)|(with_reducible refine Kd.eK ?_ _)|(with_reducible refine Kd.fR ?_)));(case bT=>exact nJ.out);(case eo=>repeat (first|exact (Kd.fy pW.out HB.out)|(with_reducible refine Kd.eJ ?_ _)|(with_reducible refine Kd.eK ?_ _)|(with_reducible refine Kd.fR ?_)));(case fS=>exact sI.out);(case gG=>exact aU.below HG.out lf);rintro e Rv ⟨rfl,hb⟩;refine ⟨_,rfl,?_⟩;have bB:=ah.mk (aM (g:=dZ) (o:= .cells #[.int .u8 bg,.string bI,.bool bJ,.slice fk cM.length fo,.string bO,.string cU,.bool cV,.slice fC cg.length fq] 35 (0,0)) qC hb);have bL:=ah.mk (ay lf hb);clear cv;clear HB;have cv:=bB;have HB:=bL;clear bB bL;(try clear hb);(try clear hb2);(try clear hk);(try clear hi))|((with_reducible refine aQ (f:=35) rfl ?_);refine cu (some 11) rfl rfl Tryz.func35 av rfl #[.string wS] rfl cT ?_;(with_reducible refine (ak.calls k wS K8 ZM acF acG acH acI acJ acK K9 _ ?aX A5.out).mono ?_);(case aX=>exact aU.below HG.out lf);rintro e mA ⟨afj,afk,rfl,ho0,kI,hb⟩;refine ⟨_,rfl,?_⟩;have bB:=ah.mk (Kd.eF ho0 (cE lf));have bL:=ah.mk (Kd.eF kI (cE lf));have bY:=ah.mk (aM (g:=dZ) (o:= .cells #[.int .u8 bg,.string bI,.bool bJ,.slice fk cM.length fo,.string bO,.string cU,.bool cV,.slice fC cg.length fq] 35 (0,0)) qC hb);have cK:=ah.mk (ay lf hb);clear cv;clear HB;have wK:=bB;have wL:=bL;have cv:=bY;have HB:=cK;clear bB bL bY cK;(try clear hb);(try clear hb2);(try clear hk);(try clear hi);(try clear ho0);(try clear kI))|((with_reducible refine cC (N:=3) rfl ?_);refine b9 ?hg (N:=3) ?hd (cs:=#[.int .u8 0,.string (⟨#[]⟩:ByteArray),.bool false,.slice none 0 0,.string (⟨#[]⟩:ByteArray),.string (⟨#[]⟩:ByteArray),.bool false,.slice none 0 0]) (t:=35) ?hr ?_;(case hd=>rfl);(case hg=>rfl);(case hr=>first|(go_simp;done)|(go_simp;rfl));intro jC hg Hh cJ hb;have bB:=ah.mk (Kd.bP II hb);have bL:=ah.mk (Kd.bP IJ hb);have bY:=ah.mk (aM (g:=dZ) (o:= .cells #[.int .u8 bg,.string bI,.bool bJ,.slice fk cM.length fo,.string bO,.string cU,.bool cV,.slice fC cg.length fq] 35 (0,0)) qC hb);have cK:=ah.mk (ay lf hb);have gY:=ah.mk (cJ);have jc:=ah.mk ((BM:w.heap.size≤jC));have nH:=ah.mk ((BM:w.heap.size≤jC));have zq:=ah.mk ((Iu:dZ≠jC));have Bo:=ah.mk ((Iw:jC≠dZ));clear wK;clear wL;clear cv;clear HB;have wK:=bB;have wL:=bL;have cv:=bY;have HB:=cK;have iz:=gY;have aaS:=jc;have U4:=nH;have uM:=zq;have uN:=Bo;clear bB bL bY cK gY jc nH zq Bo;clear hb cJ hg;have aex:=uN.out;have aey:=uM.out;have nO:Hh.cell? ⟨jC,0,none⟩=some (.int .u8 0):=(af iz.out 0).trans rfl;have nP:Hh.cell? ⟨jC,1,none⟩=some (.string (⟨#[]⟩:ByteArray)):=(af iz.out 1).trans rfl;have qR:Hh.cell? ⟨jC,2,none⟩=some (.bool false):=(af iz.out 2).trans rfl;have s9:Hh.cell? ⟨jC,3,none⟩=some (.slice none 0 0):=(af iz.out 3).trans rfl;have td:Hh.cell? ⟨jC,4,none⟩=some (.string (⟨#[]⟩:ByteArray)):=(af iz.out 4).trans rfl;have SB:Hh.cell? ⟨jC,5,none⟩=some (.string (⟨#[]⟩:ByteArray)):=(af iz.out 5).trans rfl;have SC:Hh.cell? ⟨jC,6,none⟩=some (.bool false):=(af iz.out 6).trans rfl;have SD:Hh.cell? ⟨jC,7,none⟩=some (.slice none 0 0):=(af iz.out 7).trans rfl;have nQ:=aa iz.out 0;have nR:=aa iz.out 1;have qT:=aa iz.out 2;have tj:=aa iz.out 3;have tq:=aa iz.out 4;have SE:=aa iz.out 5;have SF:=aa iz.out 6;have SG:=aa iz.out 7;obtain ⟨qo,qp,abI⟩:=Kd.dn wK.out;subst abI;obtain ⟨ark,arl,anh⟩:=Kd.dn wL.out;subst anh;have Qm:Hh.cell? ⟨dZ,0,none⟩=some (.int .u8 bg):=(af cv.out 0).trans rfl;have Qn:Hh.cell? ⟨dZ,1,none⟩=some (.string bI):=(af cv.out 1).trans rfl;have Qo:Hh.cell? ⟨dZ,2,none⟩=some (.bool bJ):=(af cv.out 2).trans rfl;have Qp:Hh.cell? ⟨dZ,3,none⟩=some (.slice fk cM.length fo):=(af cv.out 3).trans rfl;have Qq:Hh.cell? ⟨dZ,4,none⟩=some (.string bO):=(af cv.out 4).trans rfl;have ajr:Hh.cell? ⟨dZ,5,none⟩=some (.string cU):=(af cv.out 5).trans rfl;have ajs:Hh.cell? ⟨dZ,6,none⟩=some (.bool cV):=(af cv.out 6).trans rfl;have ajt:Hh.cell? ⟨dZ,7,none⟩=some (.slice fC cg.length fq):=(af cv.out 7).trans rfl;have Qr:=aa cv.out 0;have Qs:=aa cv.out 1;have Qt:=aa cv.out 2;have Qu:=aa cv.out 3;have Qv:=aa cv.out 4;have aju:=aa cv.out 5;have ajv:=aa cv.out 6;have ajw:=aa cv.out 7))
    go_ret
    exact ⟨cR,IC⟩
   ·rw [if_neg c7] at H
    have GH:(K8 == bg)=false:=beq_eq_false_iff_ne.mpr c7
    have Ot:(K8 != bg)=true:=bne_iff_ne.mpr c7
    obtain rfl:=Option.some.inj H
    go_enter Tryz.func34,Tryz.ntmps34
    go_wp2_with (first|((with_reducible refine cC (N:=1) rfl ?_);refine b9 ?hg (N:=1) ?hd (cs:=#[.int .u8 bg,.string bI,.bool bJ,.slice fk cM.length fo,.string bO,.string cU,.bool cV,.slice fC cg.length fq]) (t:=35) ?hr ?_;(case hd=>rfl);(case hg=>rfl);(case hr=>first|(go_simp;done)|(go_simp;rfl));intro dZ hg OM cJ hb;have bB:=ah.mk (ay bN hb);have bL:=ah.mk (cJ);have bY:=ah.mk ((dz:w.heap.size≤dZ));have cK:=ah.mk ((dz:w.heap.size≤dZ));clear HB;have HB:=bB;have cv:=bL;have WG:=bY;have GZ:=cK;clear bB bL bY cK;clear hb cJ hg;have vM:OM.cell? ⟨dZ,0,none⟩=some (.int .u8 bg):=(af cv.out 0).trans rfl;have vN:OM.cell? ⟨dZ,1,none⟩=some (.string bI):=(af cv.out 1).trans rfl;have vO:OM.cell? ⟨dZ,2,none⟩=some (.bool bJ):=(af cv.out 2).trans rfl;have AJ:OM.cell? ⟨dZ,3,none⟩=some (.slice fk cM.length fo):=(af cv.out 3).trans rfl;have AK:OM.cell? ⟨dZ,4,none⟩=some (.string bO):=(af cv.out 4).trans rfl;have Ef:OM.cell? ⟨dZ,5,none⟩=some (.string cU):=(af cv.out 5).trans rfl;have Eg:OM.cell? ⟨dZ,6,none⟩=some (.bool cV):=(af cv.out 6).trans rfl;have Eh:OM.cell? ⟨dZ,7,none⟩=some (.slice fC cg.length fq):=(af cv.out 7).trans rfl;have vP:=aa cv.out 0;have vQ:=aa cv.out 1;have vR:=aa cv.out 2;have AL:=aa cv.out 3;have AO:=aa cv.out 4;have Ei:=aa cv.out 5;have Ej:=aa cv.out 6;have Ek:=aa cv.out 7)|((with_reducible refine aQ (f:=90) rfl ?_);refine cu (some 6) rfl rfl Tryz.func90 av rfl #[.agg #[.int .u8 bg,.string bI,.bool bJ,.slice fk cM.length fo,.string bO,.string cU,.bool cV,.slice fC cg.length fq]] rfl cT ?_;(with_reducible refine (jx.calls k bg bI bJ _ _ cM bO cU cV _ _ cg true _ ?aX ?bT ?eo ?fS ?gG A2.out).mono ?_);(case aX=>repeat (first|exact (Kd.fy nI.out HB.out)|(with_reducible refine Kd.eJ ?_ _)|(with_reducible refine Kd.eK ?_ _)|(with_reducible refine Kd.fR ?_)));(case bT=>exact nJ.out);(case eo=>repeat (first|exact (Kd.fy pW.out HB.out)|(with_reducible refine Kd.eJ ?_ _)|(with_reducible refine Kd.eK ?_ _)|(with_reducible refine Kd.fR ?_)));(case fS=>exact sI.out);(case gG=>exact aU.below HG.out lf);rintro e Gx ⟨rfl,hb⟩;refine ⟨_,rfl,?_⟩;have bB:=ah.mk (aM (g:=dZ) (o:= .cells #[.int .u8 bg,.string bI,.bool bJ,.slice fk cM.length fo,.string bO,.string cU,.bool cV,.slice fC cg.length fq] 35 (0,0)) qC hb);have bL:=ah.mk (ay lf hb);clear cv;clear HB;have cv:=bB;have HB:=bL;clear bB bL;(try clear hb);(try clear hb2);(try clear hk);(try clear hi);have EL:Gx.cell? ⟨dZ,0,none⟩=some (.int .u8 bg):=(af cv.out 0).trans rfl;have EM:Gx.cell? ⟨dZ,1,none⟩=some (.string bI):=(af cv.out 1).trans rfl;have EN:Gx.cell? ⟨dZ,2,none⟩=some (.bool bJ):=(af cv.out 2).trans rfl;have Sm:Gx.cell? ⟨dZ,3,none⟩=some (.slice fk cM.length fo):=(af cv.out 3).trans rfl;have Sn:Gx.cell? ⟨dZ,4,none⟩=some (.string bO):=(af cv.out 4).trans rfl;have ajx:Gx.cell? ⟨dZ,5,none⟩=some (.string cU):=(af cv.out 5).trans rfl;have ajy:Gx.cell? ⟨dZ,6,none⟩=some (.bool cV):=(af cv.out 6).trans rfl;have ajz:Gx.cell? ⟨dZ,7,none⟩=some (.slice fC cg.length fq):=(af cv.out 7).trans rfl;have EO:=aa cv.out 0;have EP:=aa cv.out 1;have ER:=aa cv.out 2;have Sp:=aa cv.out 3;have Sq:=aa cv.out 4;have ajA:=aa cv.out 5;have ajB:=aa cv.out 6;have ajC:=aa cv.out 7)|((with_reducible refine aQ (f:=89) rfl ?_);refine cu (some 10) rfl rfl Tryz.func89 av rfl #[.agg #[.int .u8 bg,.string bI,.bool bJ,.slice fk cM.length fo,.string bO,.string cU,.bool cV,.slice fC cg.length fq]] rfl cT ?_;(with_reducible refine (cw.calls k bg bI bJ _ _ cM bO cU cV _ _ cg wS _ ?aX ?bT ?eo ?fS ?gG A4.out).mono ?_);(case aX=>repeat (first|exact (Kd.fy nI.out HB.out)|(with_reducible refine Kd.eJ ?_ _)|(with_reducible refine Kd.eK ?_ _)|(with_reducible refine Kd.fR ?_)));(case bT=>exact nJ.out);(case eo=>repeat (first|exact (Kd.fy pW.out HB.out)|(with_reducible refine Kd.eJ ?_ _)|(with_reducible refine Kd.eK ?_ _)|(with_reducible refine Kd.fR ?_)));(case fS=>exact sI.out);(case gG=>exact aU.below HG.out lf);rintro e KW ⟨rfl,hb⟩;refine ⟨_,rfl,?_⟩;have bB:=ah.mk (aM (g:=dZ) (o:= .cells #[.int .u8 bg,.string bI,.bool bJ,.slice fk cM.length fo,.string bO,.string cU,.bool cV,.slice fC cg.length fq] 35 (0,0)) qC hb);have bL:=ah.mk (ay lf hb);clear cv;clear HB;have cv:=bB;have HB:=bL;clear bB bL;(try clear hb);(try clear hb2);(try clear hk);(try clear hi))|((with_reducible refine aQ (f:=35) rfl ?_);refine cu (some 11) rfl rfl Tryz.func35 av rfl #[.string wS] rfl cT ?_;(with_reducible refine (ak.calls k wS K8 ZM acF acG acH acI acJ acK K9 _ ?aX A5.out).mono ?_);(case aX=>exact aU.below HG.out lf);rintro e Tf ⟨afj,afk,rfl,ho0,kI,hb⟩;refine ⟨_,rfl,?_⟩;have bB:=ah.mk (Kd.eF ho0 (cE lf));have bL:=ah.mk (Kd.eF kI (cE lf));have bY:=ah.mk (aM (g:=dZ) (o:= .cells #[.int .u8 bg,.string bI,.bool bJ,.slice fk cM.length fo,.string bO,.string cU,.bool cV,.slice fC cg.length fq] 35 (0,0)) qC hb);have cK:=ah.mk (ay lf hb);clear cv;clear HB;have wK:=bB;have wL:=bL;have cv:=bY;have HB:=cK;clear bB bL bY cK;(try clear hb);(try clear hb2);(try clear hk);(try clear hi);(try clear ho0);(try clear kI))|((with_reducible refine cC (N:=3) rfl ?_);refine b9 ?hg (N:=3) ?hd (cs:=#[.int .u8 0,.string (⟨#[]⟩:ByteArray),.bool false,.slice none 0 0,.string (⟨#[]⟩:ByteArray),.string (⟨#[]⟩:ByteArray),.bool false,.slice none 0 0]) (t:=35) ?hr ?_;(case hd=>rfl);(case hg=>rfl);(case hr=>first|(go_simp;done)|(go_simp;rfl));intro jC hg zK cJ hb;have bB:=ah.mk (Kd.bP II hb);have bL:=ah.mk (Kd.bP IJ hb);have bY:=ah.mk (aM (g:=dZ) (o:= .cells #[.int .u8 bg,.string bI,.bool bJ,.slice fk cM.length fo,.string bO,.string cU,.bool cV,.slice fC cg.length fq] 35 (0,0)) qC hb);have cK:=ah.mk (ay lf hb);have gY:=ah.mk (cJ);have jc:=ah.mk ((BM:w.heap.size≤jC));have nH:=ah.mk ((BM:w.heap.size≤jC));have zq:=ah.mk ((Iu:dZ≠jC));have Bo:=ah.mk ((Iw:jC≠dZ));clear wK;clear wL;clear cv;clear HB;have wK:=bB;have wL:=bL;have cv:=bY;have HB:=cK;have iz:=gY;have aaS:=jc;have U4:=nH;have uM:=zq;have uN:=Bo;clear bB bL bY cK gY jc nH zq Bo;clear hb cJ hg;have aaj:=uN.out;have aak:=uM.out;have Ez:zK.cell? ⟨jC,0,none⟩=some (.int .u8 0):=(af iz.out 0).trans rfl;have EA:zK.cell? ⟨jC,1,none⟩=some (.string (⟨#[]⟩:ByteArray)):=(af iz.out 1).trans rfl;have EB:zK.cell? ⟨jC,2,none⟩=some (.bool false):=(af iz.out 2).trans rfl;have JL:zK.cell? ⟨jC,3,none⟩=some (.slice none 0 0):=(af iz.out 3).trans rfl;have JM:zK.cell? ⟨jC,4,none⟩=some (.string (⟨#[]⟩:ByteArray)):=(af iz.out 4).trans rfl;have JN:zK.cell? ⟨jC,5,none⟩=some (.string (⟨#[]⟩:ByteArray)):=(af iz.out 5).trans rfl;have JO:zK.cell? ⟨jC,6,none⟩=some (.bool false):=(af iz.out 6).trans rfl;have JP:zK.cell? ⟨jC,7,none⟩=some (.slice none 0 0):=(af iz.out 7).trans rfl;have EC:=aa iz.out 0;have ED:=aa iz.out 1;have EE:=aa iz.out 2;have JQ:=aa iz.out 3;have JR:=aa iz.out 4;have JS:=aa iz.out 5;have JT:=aa iz.out 6;have JU:=aa iz.out 7;obtain ⟨arn,aro,ani⟩:=Kd.dn wK.out;subst ani;obtain ⟨zb,wQ,acL⟩:=Kd.dn wL.out;subst acL;have yN:zK.cell? ⟨dZ,0,none⟩=some (.int .u8 bg):=(af cv.out 0).trans rfl;have yO:zK.cell? ⟨dZ,1,none⟩=some (.string bI):=(af cv.out 1).trans rfl;have Bk:zK.cell? ⟨dZ,2,none⟩=some (.bool bJ):=(af cv.out 2).trans rfl;have YA:zK.cell? ⟨dZ,3,none⟩=some (.slice fk cM.length fo):=(af cv.out 3).trans rfl;have YB:zK.cell? ⟨dZ,4,none⟩=some (.string bO):=(af cv.out 4).trans rfl;have ajD:zK.cell? ⟨dZ,5,none⟩=some (.string cU):=(af cv.out 5).trans rfl;have ajE:zK.cell? ⟨dZ,6,none⟩=some (.bool cV):=(af cv.out 6).trans rfl;have ajF:zK.cell? ⟨dZ,7,none⟩=some (.slice fC cg.length fq):=(af cv.out 7).trans rfl;have yP:=aa cv.out 0;have yQ:=aa cv.out 1;have Bl:=aa cv.out 2;have YC:=aa cv.out 3;have YD:=aa cv.out 4;have ajG:=aa cv.out 5;have ajH:=aa cv.out 6;have ajI:=aa cv.out 7))
    go_ret
    exact ⟨cR,IC⟩
  ·rw [if_neg c6] at H
   have pP:(K9 == 0)=false:=beq_eq_false_iff_ne.mpr c6
   have zC:(K9 != 0)=true:=bne_iff_ne.mpr c6
   obtain rfl:=Option.some.inj H
   go_enter Tryz.func34,Tryz.ntmps34
   go_wp2_with (first|((with_reducible refine cC (N:=1) rfl ?_);refine b9 ?hg (N:=1) ?hd (cs:=#[.int .u8 bg,.string bI,.bool bJ,.slice fk cM.length fo,.string bO,.string cU,.bool cV,.slice fC cg.length fq]) (t:=35) ?hr ?_;(case hd=>rfl);(case hg=>rfl);(case hr=>first|(go_simp;done)|(go_simp;rfl));intro dZ hg EJ cJ hb;have bB:=ah.mk (ay bN hb);have bL:=ah.mk (cJ);have bY:=ah.mk ((dz:w.heap.size≤dZ));have cK:=ah.mk ((dz:w.heap.size≤dZ));clear HB;have HB:=bB;have cv:=bL;have WG:=bY;have GZ:=cK;clear bB bL bY cK;clear hb cJ hg;have Ry:EJ.cell? ⟨dZ,0,none⟩=some (.int .u8 bg):=(af cv.out 0).trans rfl;have Rz:EJ.cell? ⟨dZ,1,none⟩=some (.string bI):=(af cv.out 1).trans rfl;have YE:EJ.cell? ⟨dZ,2,none⟩=some (.bool bJ):=(af cv.out 2).trans rfl;have YF:EJ.cell? ⟨dZ,3,none⟩=some (.slice fk cM.length fo):=(af cv.out 3).trans rfl;have YG:EJ.cell? ⟨dZ,4,none⟩=some (.string bO):=(af cv.out 4).trans rfl;have ajJ:EJ.cell? ⟨dZ,5,none⟩=some (.string cU):=(af cv.out 5).trans rfl;have ajK:EJ.cell? ⟨dZ,6,none⟩=some (.bool cV):=(af cv.out 6).trans rfl;have ajL:EJ.cell? ⟨dZ,7,none⟩=some (.slice fC cg.length fq):=(af cv.out 7).trans rfl;have RA:=aa cv.out 0;have RB:=aa cv.out 1;have YH:=aa cv.out 2;have YI:=aa cv.out 3;have YJ:=aa cv.out 4;have ajM:=aa cv.out 5;have ajN:=aa cv.out 6;have ajO:=aa cv.out 7)|((with_reducible refine aQ (f:=90) rfl ?_);refine cu (some 6) rfl rfl Tryz.func90 av rfl #[.agg #[.int .u8 bg,.string bI,.bool bJ,.slice fk cM.length fo,.string bO,.string cU,.bool cV,.slice fC cg.length fq]] rfl cT ?_;(with_reducible refine (jx.calls k bg bI bJ _ _ cM bO cU cV _ _ cg true _ ?aX ?bT ?eo ?fS ?gG A2.out).mono ?_);(case aX=>repeat (first|exact (Kd.fy nI.out HB.out)|(with_reducible refine Kd.eJ ?_ _)|(with_reducible refine Kd.eK ?_ _)|(with_reducible refine Kd.fR ?_)));(case bT=>exact nJ.out);(case eo=>repeat (first|exact (Kd.fy pW.out HB.out)|(with_reducible refine Kd.eJ ?_ _)|(with_reducible refine Kd.eK ?_ _)|(with_reducible refine Kd.fR ?_)));(case fS=>exact sI.out);(case gG=>exact aU.below HG.out lf);rintro e Bn ⟨rfl,hb⟩;refine ⟨_,rfl,?_⟩;have bB:=ah.mk (aM (g:=dZ) (o:= .cells #[.int .u8 bg,.string bI,.bool bJ,.slice fk cM.length fo,.string bO,.string cU,.bool cV,.slice fC cg.length fq] 35 (0,0)) qC hb);have bL:=ah.mk (ay lf hb);clear cv;clear HB;have cv:=bB;have HB:=bL;clear bB bL;(try clear hb);(try clear hb2);(try clear hk);(try clear hi);have AR:Bn.cell? ⟨dZ,0,none⟩=some (.int .u8 bg):=(af cv.out 0).trans rfl;have AU:Bn.cell? ⟨dZ,1,none⟩=some (.string bI):=(af cv.out 1).trans rfl;have AV:Bn.cell? ⟨dZ,2,none⟩=some (.bool bJ):=(af cv.out 2).trans rfl;have Rg:Bn.cell? ⟨dZ,3,none⟩=some (.slice fk cM.length fo):=(af cv.out 3).trans rfl;have Rh:Bn.cell? ⟨dZ,4,none⟩=some (.string bO):=(af cv.out 4).trans rfl;have XX:Bn.cell? ⟨dZ,5,none⟩=some (.string cU):=(af cv.out 5).trans rfl;have XY:Bn.cell? ⟨dZ,6,none⟩=some (.bool cV):=(af cv.out 6).trans rfl;have XZ:Bn.cell? ⟨dZ,7,none⟩=some (.slice fC cg.length fq):=(af cv.out 7).trans rfl;have AW:=aa cv.out 0;have AX:=aa cv.out 1;have AY:=aa cv.out 2;have Ri:=aa cv.out 3;have Rj:=aa cv.out 4;have X0:=aa cv.out 5;have X3:=aa cv.out 6;have X4:=aa cv.out 7)|((with_reducible refine aQ (f:=89) rfl ?_);refine cu (some 10) rfl rfl Tryz.func89 av rfl #[.agg #[.int .u8 bg,.string bI,.bool bJ,.slice fk cM.length fo,.string bO,.string cU,.bool cV,.slice fC cg.length fq]] rfl cT ?_;(with_reducible refine (cw.calls k bg bI bJ _ _ cM bO cU cV _ _ cg wS _ ?aX ?bT ?eo ?fS ?gG A4.out).mono ?_);(case aX=>repeat (first|exact (Kd.fy nI.out HB.out)|(with_reducible refine Kd.eJ ?_ _)|(with_reducible refine Kd.eK ?_ _)|(with_reducible refine Kd.fR ?_)));(case bT=>exact nJ.out);(case eo=>repeat (first|exact (Kd.fy pW.out HB.out)|(with_reducible refine Kd.eJ ?_ _)|(with_reducible refine Kd.eK ?_ _)|(with_reducible refine Kd.fR ?_)));(case fS=>exact sI.out);(case gG=>exact aU.below HG.out lf);rintro e w36 ⟨rfl,hb⟩;refine ⟨_,rfl,?_⟩;have bB:=ah.mk (aM (g:=dZ) (o:= .cells #[.int .u8 bg,.string bI,.bool bJ,.slice fk cM.length fo,.string bO,.string cU,.bool cV,.slice fC cg.length fq] 35 (0,0)) qC hb);have bL:=ah.mk (ay lf hb);clear cv;clear HB;have cv:=bB;have HB:=bL;clear bB bL;(try clear hb);(try clear hb2);(try clear hk);(try clear hi))|((with_reducible refine aQ (f:=35) rfl ?_);refine cu (some 11) rfl rfl Tryz.func35 av rfl #[.string wS] rfl cT ?_;(with_reducible refine (ak.calls k wS K8 ZM acF acG acH acI acJ acK K9 _ ?aX A5.out).mono ?_);(case aX=>exact aU.below HG.out lf);rintro e w37 ⟨afj,afk,rfl,ho0,kI,hb⟩;refine ⟨_,rfl,?_⟩;have bB:=ah.mk (Kd.eF ho0 (cE lf));have bL:=ah.mk (Kd.eF kI (cE lf));have bY:=ah.mk (aM (g:=dZ) (o:= .cells #[.int .u8 bg,.string bI,.bool bJ,.slice fk cM.length fo,.string bO,.string cU,.bool cV,.slice fC cg.length fq] 35 (0,0)) qC hb);have cK:=ah.mk (ay lf hb);clear cv;clear HB;have wK:=bB;have wL:=bL;have cv:=bY;have HB:=cK;clear bB bL bY cK;(try clear hb);(try clear hb2);(try clear hk);(try clear hi);(try clear ho0);(try clear kI))|((with_reducible refine cC (N:=3) rfl ?_);refine b9 ?hg (N:=3) ?hd (cs:=#[.int .u8 0,.string (⟨#[]⟩:ByteArray),.bool false,.slice none 0 0,.string (⟨#[]⟩:ByteArray),.string (⟨#[]⟩:ByteArray),.bool false,.slice none 0 0]) (t:=35) ?hr ?_;(case hd=>rfl);(case hg=>rfl);(case hr=>first|(go_simp;done)|(go_simp;rfl));intro jC hg Ua cJ hb;have bB:=ah.mk (Kd.bP II hb);have bL:=ah.mk (Kd.bP IJ hb);have bY:=ah.mk (aM (g:=dZ) (o:= .cells #[.int .u8 bg,.string bI,.bool bJ,.slice fk cM.length fo,.string bO,.string cU,.bool cV,.slice fC cg.length fq] 35 (0,0)) qC hb);have cK:=ah.mk (ay lf hb);have gY:=ah.mk (cJ);have jc:=ah.mk ((BM:w.heap.size≤jC));have nH:=ah.mk ((BM:w.heap.size≤jC));have zq:=ah.mk ((Iu:dZ≠jC));have Bo:=ah.mk ((Iw:jC≠dZ));clear wK;clear wL;clear cv;clear HB;have wK:=bB;have wL:=bL;have cv:=bY;have HB:=cK;have iz:=gY;have aaS:=jc;have U4:=nH;have uM:=zq;have uN:=Bo;clear bB bL bY cK gY jc nH zq Bo;clear hb cJ hg;have aeC:=uN.out;have aeD:=uM.out;have RR:Ua.cell? ⟨jC,0,none⟩=some (.int .u8 0):=(af iz.out 0).trans rfl;have RS:Ua.cell? ⟨jC,1,none⟩=some (.string (⟨#[]⟩:ByteArray)):=(af iz.out 1).trans rfl;have RT:Ua.cell? ⟨jC,2,none⟩=some (.bool false):=(af iz.out 2).trans rfl;have RU:Ua.cell? ⟨jC,3,none⟩=some (.slice none 0 0):=(af iz.out 3).trans rfl;have RV:Ua.cell? ⟨jC,4,none⟩=some (.string (⟨#[]⟩:ByteArray)):=(af iz.out 4).trans rfl;have ZF:Ua.cell? ⟨jC,5,none⟩=some (.string (⟨#[]⟩:ByteArray)):=(af iz.out 5).trans rfl;have ZG:Ua.cell? ⟨jC,6,none⟩=some (.bool false):=(af iz.out 6).trans rfl;have ZH:Ua.cell? ⟨jC,7,none⟩=some (.slice none 0 0):=(af iz.out 7).trans rfl;have RX:=aa iz.out 0;have RY:=aa iz.out 1;have RZ:=aa iz.out 2;have R3:=aa iz.out 3;have R4:=aa iz.out 4;have ZI:=aa iz.out 5;have ZJ:=aa iz.out 6;have ZK:=aa iz.out 7;obtain ⟨arp,arq,anj⟩:=Kd.dn wK.out;subst anj;obtain ⟨ars,art,ank⟩:=Kd.dn wL.out;subst ank))
   go_ret
   exact ⟨cR,IC⟩
 ·replace c3:=Bool.eq_false_iff.mpr c3
  subst c3
  have H1:(some false)=some r:=by rw [if_neg (show ¬ (false=true) by decide)] at H;exact H
  clear H
  have H:=H1
  clear H1
  obtain rfl:=Option.some.inj H
  go_enter Tryz.func34,Tryz.ntmps34
  go_wp2_with (first|((with_reducible refine cC (N:=1) rfl ?_);refine b9 ?hg (N:=1) ?hd (cs:=#[.int .u8 bg,.string bI,.bool bJ,.slice fk cM.length fo,.string bO,.string cU,.bool cV,.slice fC cg.length fq]) (t:=35) ?hr ?_;(case hd=>rfl);(case hg=>rfl);(case hr=>first|(go_simp;done)|(go_simp;rfl));intro dZ hg R5 cJ hb;have bB:=ah.mk (ay bN hb);have bL:=ah.mk (cJ);have bY:=ah.mk ((dz:w.heap.size≤dZ));have cK:=ah.mk ((dz:w.heap.size≤dZ));clear HB;have HB:=bB;have cv:=bL;have WG:=bY;have GZ:=cK;clear bB bL bY cK;clear hb cJ hg;have ajP:R5.cell? ⟨dZ,0,none⟩=some (.int .u8 bg):=(af cv.out 0).trans rfl;have ajQ:R5.cell? ⟨dZ,1,none⟩=some (.string bI):=(af cv.out 1).trans rfl;have ajR:R5.cell? ⟨dZ,2,none⟩=some (.bool bJ):=(af cv.out 2).trans rfl;have ajS:R5.cell? ⟨dZ,3,none⟩=some (.slice fk cM.length fo):=(af cv.out 3).trans rfl;have ajT:R5.cell? ⟨dZ,4,none⟩=some (.string bO):=(af cv.out 4).trans rfl;have ajU:R5.cell? ⟨dZ,5,none⟩=some (.string cU):=(af cv.out 5).trans rfl;have ajV:R5.cell? ⟨dZ,6,none⟩=some (.bool cV):=(af cv.out 6).trans rfl;have ajW:R5.cell? ⟨dZ,7,none⟩=some (.slice fC cg.length fq):=(af cv.out 7).trans rfl;have ajX:=aa cv.out 0;have ajY:=aa cv.out 1;have ajZ:=aa cv.out 2;have aj0:=aa cv.out 3;have aj1:=aa cv.out 4;have aj2:=aa cv.out 5;have aj3:=aa cv.out 6;have aj4:=aa cv.out 7)|((with_reducible refine aQ (f:=90) rfl ?_);refine cu (some 6) rfl rfl Tryz.func90 av rfl #[.agg #[.int .u8 bg,.string bI,.bool bJ,.slice fk cM.length fo,.string bO,.string cU,.bool cV,.slice fC cg.length fq]] rfl cT ?_;(with_reducible refine (jx.calls k bg bI bJ _ _ cM bO cU cV _ _ cg false _ ?aX ?bT ?eo ?fS ?gG A2.out).mono ?_);(case aX=>repeat (first|exact (Kd.fy nI.out HB.out)|(with_reducible refine Kd.eJ ?_ _)|(with_reducible refine Kd.eK ?_ _)|(with_reducible refine Kd.fR ?_)));(case bT=>exact nJ.out);(case eo=>repeat (first|exact (Kd.fy pW.out HB.out)|(with_reducible refine Kd.eJ ?_ _)|(with_reducible refine Kd.eK ?_ _)|(with_reducible refine Kd.fR ?_)));(case fS=>exact sI.out);(case gG=>exact aU.below HG.out lf);rintro e w45 ⟨rfl,hb⟩;refine ⟨_,rfl,?_⟩;have bB:=ah.mk (aM (g:=dZ) (o:= .cells #[.int .u8 bg,.string bI,.bool bJ,.slice fk cM.length fo,.string bO,.string cU,.bool cV,.slice fC cg.length fq] 35 (0,0)) qC hb);have bL:=ah.mk (ay lf hb);clear cv;clear HB;have cv:=bB;have HB:=bL;clear bB bL;(try clear hb);(try clear hb2);(try clear hk);(try clear hi)))
  go_ret
  exact ⟨cR,lf⟩
def iM.f (k:Nat) (bg:Int) (bI:ByteArray) (bJ:Bool) (cM:List ByteArray) (bO:ByteArray) (cU:ByteArray) (cV:Bool) (cg:List (ij)):Option (ByteArray×Int):=(kQ.f k bg bI bJ cM bO cU cV cg).bind fun TC=>(if TC=true then ((cw.f k bg bI bJ cM bO cU cV cg).bind fun GU=>(some (GU,0))) else (some ((⟨#[]⟩:ByteArray),2)))
set_option maxHeartbeats 8000000 in
set_option maxRecDepth 100000 in
theorem iM.calls (k:Nat) (bg:Int) (bI:ByteArray) (bJ:Bool) (fk:Option Addr) (fo:Nat) (cM:List ByteArray) (bO:ByteArray) (cU:ByteArray) (cV:Bool) (fC:Option Addr) (fq:Nat) (cg:List (ij)) (r1:ByteArray) (r2:Int) (w:World) (tv:Kd.C Kd.string w fk cM.length cM) (tA:cM.length≤fo) (tB:Kd.C CF w fC cg.length cg) (tC:cg.length≤fq) (hG:aU w) (h:iM.f k bg bI bJ cM bO cU cV cg=some (r1,r2)):
 Calls Tryz.prog 33 #[.agg #[.int .u8 bg,.string bI,.bool bJ,.slice fk cM.length fo,.string bO,.string cU,.bool cV,.slice fC cg.length fq]] w fun e w'=>e= .returned (.tuple #[.string r1,.int .i64 r2])∧Below w.heap.size w w':=by
 have LW:=Tryz.underlying35
 have nI:=ah.mk tv
 have nJ:=ah.mk tA
 clear tv tA
 have pW:=ah.mk tB
 have sI:=ah.mk tC
 clear tB tC
 have HB:=ah.mk (Below.refl w.heap.size w)
 have HG:=ah.mk hG
 clear hG
 have H:((kQ.f k bg bI bJ cM bO cU cV cg).bind fun TC=>(if TC=true then ((cw.f k bg bI bJ cM bO cU cV cg).bind fun GU=>(some (GU,0))) else (some ((⟨#[]⟩:ByteArray),2))))=some (r1,r2):=h
 clear h
 replace H:=Option.bind_eq_some_iff.mp H
 obtain ⟨TC,nU,H⟩:=H
 replace H:(if TC=true then ((cw.f k bg bI bJ cM bO cU cV cg).bind fun GU=>(some (GU,0))) else (some ((⟨#[]⟩:ByteArray),2)))=some (r1,r2):=H
 have A2:=ah.mk nU
 clear nU
 by_cases c3:TC=true
 ·subst c3
  have H1:((cw.f k bg bI bJ cM bO cU cV cg).bind fun GU=>(some (GU,0)))=some (r1,r2):=by rw [if_pos rfl] at H;exact H
  clear H
  have H:=H1
  clear H1
  replace H:=Option.bind_eq_some_iff.mp H
  obtain ⟨GU,Bg,H⟩:=H
  replace H:(some (GU,0))=some (r1,r2):=H
  have A4:=ah.mk Bg
  clear Bg
  simp only [Option.some.injEq,Prod.mk.injEq] at H
  obtain ⟨rfl,rfl⟩:=H
  go_enter Tryz.func33,Tryz.ntmps33
  go_wp2_with (first|((with_reducible refine cC (N:=1) rfl ?_);refine b9 ?hg (N:=1) ?hd (cs:=#[.int .u8 bg,.string bI,.bool bJ,.slice fk cM.length fo,.string bO,.string cU,.bool cV,.slice fC cg.length fq]) (t:=35) ?hr ?_;(case hd=>rfl);(case hg=>rfl);(case hr=>first|(go_simp;done)|(go_simp;rfl));intro kR hg w5 cJ hb;have bB:=ah.mk (ay bN hb);have bL:=ah.mk (cJ);have bY:=ah.mk ((dz:w.heap.size≤kR));have cK:=ah.mk ((dz:w.heap.size≤kR));clear HB;have HB:=bB;have gI:=bL;have afl:=bY;have Z4:=cK;clear bB bL bY cK;clear hb cJ hg;have VB:w5.cell? ⟨kR,0,none⟩=some (.int .u8 bg):=(af gI.out 0).trans rfl;have VC:w5.cell? ⟨kR,1,none⟩=some (.string bI):=(af gI.out 1).trans rfl;have acw:w5.cell? ⟨kR,2,none⟩=some (.bool bJ):=(af gI.out 2).trans rfl;have acy:w5.cell? ⟨kR,3,none⟩=some (.slice fk cM.length fo):=(af gI.out 3).trans rfl;have acz:w5.cell? ⟨kR,4,none⟩=some (.string bO):=(af gI.out 4).trans rfl;have anl:w5.cell? ⟨kR,5,none⟩=some (.string cU):=(af gI.out 5).trans rfl;have anm:w5.cell? ⟨kR,6,none⟩=some (.bool cV):=(af gI.out 6).trans rfl;have ann:w5.cell? ⟨kR,7,none⟩=some (.slice fC cg.length fq):=(af gI.out 7).trans rfl;have VD:=aa gI.out 0;have VE:=aa gI.out 1;have acA:=aa gI.out 2;have acB:=aa gI.out 3;have acC:=aa gI.out 4;have ano:=aa gI.out 5;have anp:=aa gI.out 6;have anq:=aa gI.out 7)|((with_reducible refine aQ (f:=34) rfl ?_);refine cu (some 5) rfl rfl Tryz.func34 av rfl #[.agg #[.int .u8 bg,.string bI,.bool bJ,.slice fk cM.length fo,.string bO,.string cU,.bool cV,.slice fC cg.length fq]] rfl cT ?_;(with_reducible refine (kQ.calls k bg bI bJ _ _ cM bO cU cV _ _ cg true _ ?aX ?bT ?eo ?fS ?gG A2.out).mono ?_);(case aX=>repeat (first|exact (Kd.fy nI.out HB.out)|(with_reducible refine Kd.eJ ?_ _)|(with_reducible refine Kd.eK ?_ _)|(with_reducible refine Kd.fR ?_)));(case bT=>exact nJ.out);(case eo=>repeat (first|exact (Kd.fy pW.out HB.out)|(with_reducible refine Kd.eJ ?_ _)|(with_reducible refine Kd.eK ?_ _)|(with_reducible refine Kd.fR ?_)));(case fS=>exact sI.out);(case gG=>exact aU.below HG.out wW);rintro e w7 ⟨rfl,hb⟩;refine ⟨_,rfl,?_⟩;have bB:=ah.mk (aM (g:=kR) (o:= .cells #[.int .u8 bg,.string bI,.bool bJ,.slice fk cM.length fo,.string bO,.string cU,.bool cV,.slice fC cg.length fq] 35 (0,0)) IG hb);have bL:=ah.mk (ay wW hb);clear gI;clear HB;have gI:=bB;have HB:=bL;clear bB bL;(try clear hb);(try clear hb2);(try clear hk);(try clear hi);have xh:w7.cell? ⟨kR,0,none⟩=some (.int .u8 bg):=(af gI.out 0).trans rfl;have xj:w7.cell? ⟨kR,1,none⟩=some (.string bI):=(af gI.out 1).trans rfl;have BZ:w7.cell? ⟨kR,2,none⟩=some (.bool bJ):=(af gI.out 2).trans rfl;have Fl:w7.cell? ⟨kR,3,none⟩=some (.slice fk cM.length fo):=(af gI.out 3).trans rfl;have Fm:w7.cell? ⟨kR,4,none⟩=some (.string bO):=(af gI.out 4).trans rfl;have acf:w7.cell? ⟨kR,5,none⟩=some (.string cU):=(af gI.out 5).trans rfl;have acg:w7.cell? ⟨kR,6,none⟩=some (.bool cV):=(af gI.out 6).trans rfl;have ach:w7.cell? ⟨kR,7,none⟩=some (.slice fC cg.length fq):=(af gI.out 7).trans rfl;have xk:=aa gI.out 0;have xm:=aa gI.out 1;have B0:=aa gI.out 2;have Fp:=aa gI.out 3;have Fq:=aa gI.out 4;have aci:=aa gI.out 5;have acj:=aa gI.out 6;have ack:=aa gI.out 7)|((with_reducible refine aQ (f:=89) rfl ?_);refine cu (some 8) rfl rfl Tryz.func89 av rfl #[.agg #[.int .u8 bg,.string bI,.bool bJ,.slice fk cM.length fo,.string bO,.string cU,.bool cV,.slice fC cg.length fq]] rfl cT ?_;(with_reducible refine (cw.calls k bg bI bJ _ _ cM bO cU cV _ _ cg GU _ ?aX ?bT ?eo ?fS ?gG A4.out).mono ?_);(case aX=>repeat (first|exact (Kd.fy nI.out HB.out)|(with_reducible refine Kd.eJ ?_ _)|(with_reducible refine Kd.eK ?_ _)|(with_reducible refine Kd.fR ?_)));(case bT=>exact nJ.out);(case eo=>repeat (first|exact (Kd.fy pW.out HB.out)|(with_reducible refine Kd.eJ ?_ _)|(with_reducible refine Kd.eK ?_ _)|(with_reducible refine Kd.fR ?_)));(case fS=>exact sI.out);(case gG=>exact aU.below HG.out wW);rintro e w9 ⟨rfl,hb⟩;refine ⟨_,rfl,?_⟩;have bB:=ah.mk (aM (g:=kR) (o:= .cells #[.int .u8 bg,.string bI,.bool bJ,.slice fk cM.length fo,.string bO,.string cU,.bool cV,.slice fC cg.length fq] 35 (0,0)) IG hb);have bL:=ah.mk (ay wW hb);clear gI;clear HB;have gI:=bB;have HB:=bL;clear bB bL;(try clear hb);(try clear hb2);(try clear hk);(try clear hi)))
  go_ret2
  exact ⟨cR,wW⟩
 ·replace c3:=Bool.eq_false_iff.mpr c3
  subst c3
  have H1:(some ((⟨#[]⟩:ByteArray),2))=some (r1,r2):=by rw [if_neg (show ¬ (false=true) by decide)] at H;exact H
  clear H
  have H:=H1
  clear H1
  simp only [Option.some.injEq,Prod.mk.injEq] at H
  obtain ⟨rfl,rfl⟩:=H
  go_enter Tryz.func33,Tryz.ntmps33
  go_wp2_with (first|((with_reducible refine cC (N:=1) rfl ?_);refine b9 ?hg (N:=1) ?hd (cs:=#[.int .u8 bg,.string bI,.bool bJ,.slice fk cM.length fo,.string bO,.string cU,.bool cV,.slice fC cg.length fq]) (t:=35) ?hr ?_;(case hd=>rfl);(case hg=>rfl);(case hr=>first|(go_simp;done)|(go_simp;rfl));intro kR hg uk cJ hb;have bB:=ah.mk (ay bN hb);have bL:=ah.mk (cJ);have bY:=ah.mk ((dz:w.heap.size≤kR));have cK:=ah.mk ((dz:w.heap.size≤kR));clear HB;have HB:=bB;have gI:=bL;have afl:=bY;have Z4:=cK;clear bB bL bY cK;clear hb cJ hg;have tD:uk.cell? ⟨kR,0,none⟩=some (.int .u8 bg):=(af gI.out 0).trans rfl;have tE:uk.cell? ⟨kR,1,none⟩=some (.string bI):=(af gI.out 1).trans rfl;have tF:uk.cell? ⟨kR,2,none⟩=some (.bool bJ):=(af gI.out 2).trans rfl;have yh:uk.cell? ⟨kR,3,none⟩=some (.slice fk cM.length fo):=(af gI.out 3).trans rfl;have yj:uk.cell? ⟨kR,4,none⟩=some (.string bO):=(af gI.out 4).trans rfl;have Av:uk.cell? ⟨kR,5,none⟩=some (.string cU):=(af gI.out 5).trans rfl;have Aw:uk.cell? ⟨kR,6,none⟩=some (.bool cV):=(af gI.out 6).trans rfl;have Ax:uk.cell? ⟨kR,7,none⟩=some (.slice fC cg.length fq):=(af gI.out 7).trans rfl;have tG:=aa gI.out 0;have tH:=aa gI.out 1;have tI:=aa gI.out 2;have yl:=aa gI.out 3;have ym:=aa gI.out 4;have Ay:=aa gI.out 5;have Az:=aa gI.out 6;have AA:=aa gI.out 7)|((with_reducible refine aQ (f:=34) rfl ?_);refine cu (some 5) rfl rfl Tryz.func34 av rfl #[.agg #[.int .u8 bg,.string bI,.bool bJ,.slice fk cM.length fo,.string bO,.string cU,.bool cV,.slice fC cg.length fq]] rfl cT ?_;(with_reducible refine (kQ.calls k bg bI bJ _ _ cM bO cU cV _ _ cg false _ ?aX ?bT ?eo ?fS ?gG A2.out).mono ?_);(case aX=>repeat (first|exact (Kd.fy nI.out HB.out)|(with_reducible refine Kd.eJ ?_ _)|(with_reducible refine Kd.eK ?_ _)|(with_reducible refine Kd.fR ?_)));(case bT=>exact nJ.out);(case eo=>repeat (first|exact (Kd.fy pW.out HB.out)|(with_reducible refine Kd.eJ ?_ _)|(with_reducible refine Kd.eK ?_ _)|(with_reducible refine Kd.fR ?_)));(case fS=>exact sI.out);(case gG=>exact aU.below HG.out wW);rintro e Rv ⟨rfl,hb⟩;refine ⟨_,rfl,?_⟩;have bB:=ah.mk (aM (g:=kR) (o:= .cells #[.int .u8 bg,.string bI,.bool bJ,.slice fk cM.length fo,.string bO,.string cU,.bool cV,.slice fC cg.length fq] 35 (0,0)) IG hb);have bL:=ah.mk (ay wW hb);clear gI;clear HB;have gI:=bB;have HB:=bL;clear bB bL;(try clear hb);(try clear hb2);(try clear hk);(try clear hi)))
  go_ret2
  exact ⟨cR,wW⟩
end Go.Proofs.YtokpnfljjjjikaaGreatDoor.pJ
