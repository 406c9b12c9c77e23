import Derived.Test.YtokpnfljjjjikaaGreatDoorQPtx12
import Derived.Test.YtokpnfljjjjikaaGreatDoorEBox
import Derived.Test.YtokpnfljjjjikaaGreatDoorEJoin
namespace Go.Proofs.YtokpnfljjjjikaaGreatDoor.lO
open Go.RowKit Go.Proofs.YtokpnfljjjjikaaGreatDoor.sL Go.Proofs.aj.bw Go.Proofs.aj.eU Go.Proofs.aj.cj
attribute [local go_sem] gL gM iL iM fZ gf gP gQ
set_option linter.unusedVariables false
set_option linter.unusedSimpArgs false
def dK.f (k:Nat) (bD:Bool) (bG:List ByteArray) (bC:ByteArray) (bI:ByteArray) (bJ:Bool):Option (ByteArray×Int):=(dZ.f k bD bG bC bI bJ).bind fun JF=>(if JF=true then (if bD=true then (some ((⟨#[60,62]⟩:ByteArray),0)) else (if bI.toList=([]:List UInt8) then (some ((⟨#[60,112,111,115,116,109,97,115,116,101,114,62]⟩:ByteArray),0)) else ((eG.f k bC bI bJ).bind fun kH=>(if (bG.length:Int) > 0 then ((strings_Join.f bG (⟨#[44,64]⟩:ByteArray)).bind fun mo=>(if 1 + mo.size≤9223372036854775807 then (if ((⟨#[64]⟩:ByteArray) ++ mo).size + 1≤9223372036854775807 then (if (((⟨#[64]⟩:ByteArray) ++ mo) ++ (⟨#[58]⟩:ByteArray)).size + kH.1.size≤9223372036854775807 then (if 1 + ((((⟨#[64]⟩:ByteArray) ++ mo) ++ (⟨#[58]⟩:ByteArray)) ++ kH.1).size≤9223372036854775807 then (if ((⟨#[60]⟩:ByteArray) ++ ((((⟨#[64]⟩:ByteArray) ++ mo) ++ (⟨#[58]⟩:ByteArray)) ++ kH.1)).size + 1≤9223372036854775807 then (some (((⟨#[60]⟩:ByteArray) ++ ((((⟨#[64]⟩:ByteArray) ++ mo) ++ (⟨#[58]⟩:ByteArray)) ++ kH.1)) ++ (⟨#[62]⟩:ByteArray),kH.2)) else (none)) else (none)) else (none)) else (none)) else (none))) else (if 1 + kH.1.size≤9223372036854775807 then (if ((⟨#[60]⟩:ByteArray) ++ kH.1).size + 1≤9223372036854775807 then (some (((⟨#[60]⟩:ByteArray) ++ kH.1) ++ (⟨#[62]⟩:ByteArray),kH.2)) else (none)) else (none)))))) else (some ((⟨#[]⟩:ByteArray),150)))
set_option maxHeartbeats 8000000 in
set_option maxRecDepth 100000 in
theorem dK.calls (k:Nat) (bD:Bool) (cI:Option Addr) (cJ:Nat) (bG:List ByteArray) (bC:ByteArray) (bI:ByteArray) (bJ:Bool) (r1:ByteArray) (r2:Int) (w:World) (nB:Kd.C Kd.string w cI bG.length bG) (nC:bG.length≤cJ) (hG:aQ w) (h:dK.f k bD bG bC bI bJ=some (r1,r2)):
 Calls Tryz.prog 21 #[.agg #[.bool bD,.slice cI bG.length cJ,.string bC,.string bI,.bool bJ]] w fun e w'=>e= .returned (.tuple #[.string r1,.int .i64 r2])∧Below w.heap.size w w':=by
 have Dh:=Tryz.underlying32
 have Bf:=Tryz.underlying30
 have jK:=af.mk nB
 have kF:=af.mk nC
 clear nB nC
 have HB:=af.mk (Below.refl w.heap.size w)
 have HG:=af.mk hG
 clear hG
 have H:((dZ.f k bD bG bC bI bJ).bind fun JF=>(if JF=true then (if bD=true then (some ((⟨#[60,62]⟩:ByteArray),0)) else (if bI.toList=([]:List UInt8) then (some ((⟨#[60,112,111,115,116,109,97,115,116,101,114,62]⟩:ByteArray),0)) else ((eG.f k bC bI bJ).bind fun kH=>(if (bG.length:Int) > 0 then ((strings_Join.f bG (⟨#[44,64]⟩:ByteArray)).bind fun mo=>(if 1 + mo.size≤9223372036854775807 then (if ((⟨#[64]⟩:ByteArray) ++ mo).size + 1≤9223372036854775807 then (if (((⟨#[64]⟩:ByteArray) ++ mo) ++ (⟨#[58]⟩:ByteArray)).size + kH.1.size≤9223372036854775807 then (if 1 + ((((⟨#[64]⟩:ByteArray) ++ mo) ++ (⟨#[58]⟩:ByteArray)) ++ kH.1).size≤9223372036854775807 then (if ((⟨#[60]⟩:ByteArray) ++ ((((⟨#[64]⟩:ByteArray) ++ mo) ++ (⟨#[58]⟩:ByteArray)) ++ kH.1)).size + 1≤9223372036854775807 then (some (((⟨#[60]⟩:ByteArray) ++ ((((⟨#[64]⟩:ByteArray) ++ mo) ++ (⟨#[58]⟩:ByteArray)) ++ kH.1)) ++ (⟨#[62]⟩:ByteArray),kH.2)) else (none)) else (none)) else (none)) else (none)) else (none))) else (if 1 + kH.1.size≤9223372036854775807 then (if ((⟨#[60]⟩:ByteArray) ++ kH.1).size + 1≤9223372036854775807 then (some (((⟨#[60]⟩:ByteArray) ++ kH.1) ++ (⟨#[62]⟩:ByteArray),kH.2)) else (none)) else (none)))))) else (some ((⟨#[]⟩:ByteArray),150))))=some (r1,r2):=h
 clear h
 obtain ⟨JF,A2,H⟩:=bd_ H
 by_cases c3:JF=true
 ·subst c3
  rw [if_pos rfl] at H
  by_cases c4:bD=true
  ·subst c4
   rw [if_pos rfl] at H
   simp only [Option.some.injEq,Prod.mk.injEq] at H
   obtain ⟨rfl,rfl⟩:=H
   go_enter Tryz.func21,Tryz.ntmps21
   go_wp2_with (first|((with_reducible refine cU (N:=1) rfl ?_);refine cL ?hg (N:=1) ?hd (cs:=#[.bool true,.slice cI bG.length cJ,.string bC,.string bI,.bool bJ]) (t:=32) ?hr ?_;(case hd=>rfl);(case hg=>rfl);(case hr=>first|(go_simp;done)|(go_simp;rfl));intro dH hg w5 dg hb;have bX:=af.mk (dg);have FR:=af.mk ((eo:w.heap.size≤dH));have Ak:=af.mk ((eo:w.heap.size≤dH));replace HB:=af.mk (aH bS hb);clear hb dg hg;have vL:w5.cell? ⟨dH,0,none⟩=some (.bool true):=(ah bX.out 0).trans rfl;have vM:w5.cell? ⟨dH,1,none⟩=some (.slice cI bG.length cJ):=(ah bX.out 1).trans rfl;have zU:w5.cell? ⟨dH,2,none⟩=some (.string bC):=(ah bX.out 2).trans rfl;have zV:w5.cell? ⟨dH,3,none⟩=some (.string bI):=(ah bX.out 3).trans rfl;have zW:w5.cell? ⟨dH,4,none⟩=some (.bool bJ):=(ah bX.out 4).trans rfl;have vN:=aa bX.out 0;have vO:=aa bX.out 1;have zX:=aa bX.out 2;have zY:=aa bX.out 3;have zZ:=aa bX.out 4)|((with_reducible refine aU (f:=20) rfl ?_);refine bY (some 8) rfl rfl Tryz.func20 ay rfl #[.agg #[.bool true,.slice cI bG.length cJ,.string bC,.string bI,.bool bJ]] rfl cr ?_;(with_reducible refine (dZ.calls k true _ _ bG bC bI bJ true _ ?aX ?bL ?eF A2.out).mono ?_);(case aX=>repeat (first|exact (Kd.fR jK.out HB.out)|(with_reducible refine Kd.gu ?_ _)|(with_reducible refine Kd.gv ?_ _)|(with_reducible refine Kd.iB ?_)));(case bL=>exact kF.out);(case eF=>exact aQ.below HG.out iP);rintro e w7 ⟨rfl,hb⟩;refine ⟨_,rfl,?_⟩;replace bX:=af.mk (bq oZ hb);replace HB:=af.mk (aH iP hb);(try clear hb);have vC:w7.cell? ⟨dH,0,none⟩=some (.bool true):=(ah bX.out 0).trans rfl;have vD:w7.cell? ⟨dH,1,none⟩=some (.slice cI bG.length cJ):=(ah bX.out 1).trans rfl;have Dc:w7.cell? ⟨dH,2,none⟩=some (.string bC):=(ah bX.out 2).trans rfl;have Jn:w7.cell? ⟨dH,3,none⟩=some (.string bI):=(ah bX.out 3).trans rfl;have Jo:w7.cell? ⟨dH,4,none⟩=some (.bool bJ):=(ah bX.out 4).trans rfl;have vE:=aa bX.out 0;have vF:=aa bX.out 1;have Dd:=aa bX.out 2;have Jp:=aa bX.out 3;have Jq:=aa bX.out 4))
   go_ret2
   exact ⟨cM,iP⟩
  ·replace c4:=Bool.eq_false_iff.mpr c4
   subst c4
   rw [if_neg (show ¬ (false=true) by decide)] at H
   by_cases c9:bI.toList=([]:List UInt8)
   ·rw [if_pos c9] at H
    have K6:=beq_iff_eq.mpr c9
    have OD:=bne_eq_false_iff_eq.mpr c9
    clear c9
    simp only [Option.some.injEq,Prod.mk.injEq] at H
    obtain ⟨rfl,rfl⟩:=H
    go_enter Tryz.func21,Tryz.ntmps21
    go_wp2_with (first|((with_reducible refine cU (N:=1) rfl ?_);refine cL ?hg (N:=1) ?hd (cs:=#[.bool false,.slice cI bG.length cJ,.string bC,.string bI,.bool bJ]) (t:=32) ?hr ?_;(case hd=>rfl);(case hg=>rfl);(case hr=>first|(go_simp;done)|(go_simp;rfl));intro dH hg sB dg hb;have bX:=af.mk (dg);have FR:=af.mk ((eo:w.heap.size≤dH));have Ak:=af.mk ((eo:w.heap.size≤dH));replace HB:=af.mk (aH bS hb);clear hb dg hg;have Fa:sB.cell? ⟨dH,0,none⟩=some (.bool false):=(ah bX.out 0).trans rfl;have Fb:sB.cell? ⟨dH,1,none⟩=some (.slice cI bG.length cJ):=(ah bX.out 1).trans rfl;have Fe:sB.cell? ⟨dH,2,none⟩=some (.string bC):=(ah bX.out 2).trans rfl;have Wx:sB.cell? ⟨dH,3,none⟩=some (.string bI):=(ah bX.out 3).trans rfl;have Wy:sB.cell? ⟨dH,4,none⟩=some (.bool bJ):=(ah bX.out 4).trans rfl;have Ff:=aa bX.out 0;have Fg:=aa bX.out 1;have Fh:=aa bX.out 2;have Wz:=aa bX.out 3;have WA:=aa bX.out 4)|((with_reducible refine aU (f:=20) rfl ?_);refine bY (some 8) rfl rfl Tryz.func20 ay rfl #[.agg #[.bool false,.slice cI bG.length cJ,.string bC,.string bI,.bool bJ]] rfl cr ?_;(with_reducible refine (dZ.calls k false _ _ bG bC bI bJ true _ ?aX ?bL ?eF A2.out).mono ?_);(case aX=>repeat (first|exact (Kd.fR jK.out HB.out)|(with_reducible refine Kd.gu ?_ _)|(with_reducible refine Kd.gv ?_ _)|(with_reducible refine Kd.iB ?_)));(case bL=>exact kF.out);(case eF=>exact aQ.below HG.out iP);rintro e Hq ⟨rfl,hb⟩;refine ⟨_,rfl,?_⟩;replace bX:=af.mk (bq oZ hb);replace HB:=af.mk (aH iP hb);(try clear hb);have rJ:Hq.cell? ⟨dH,0,none⟩=some (.bool false):=(ah bX.out 0).trans rfl;have rK:Hq.cell? ⟨dH,1,none⟩=some (.slice cI bG.length cJ):=(ah bX.out 1).trans rfl;have FL:Hq.cell? ⟨dH,2,none⟩=some (.string bC):=(ah bX.out 2).trans rfl;have LR:Hq.cell? ⟨dH,3,none⟩=some (.string bI):=(ah bX.out 3).trans rfl;have LS:Hq.cell? ⟨dH,4,none⟩=some (.bool bJ):=(ah bX.out 4).trans rfl;have rL:=aa bX.out 0;have rM:=aa bX.out 1;have FM:=aa bX.out 2;have LU:=aa bX.out 3;have LV:=aa bX.out 4))
    go_ret2
    exact ⟨cM,iP⟩
   ·rw [if_neg c9] at H
    have K6:=beq_eq_false_iff_ne.mpr c9
    have OD:=bne_iff_ne.mpr c9
    obtain ⟨⟨vZ,Rc⟩,IV,H⟩:=bd_ H
    (try dsimp only at H)
    by_cases c15:(bG.length:Int) > 0
    ·rw [if_pos c15] at H
     have vI:decide (0 < (bG.length:Int))=true:=decide_eq_true c15
     have vJ:decide (0 < bG.length)=true:=decide_eq_true ak
     clear c15
     obtain ⟨mo,PD,H⟩:=bd_ H
     obtain ⟨c17,H⟩:=jA H
     have AV:=eq_true c17
     have JG:=decide_eq_true c17
     try have JH:(9223372036854775807 < 1 + mo.size)=False:=eq_false (Nat.not_lt.2 c17)
     obtain ⟨c18,H⟩:=jA H
     have ac4:=eq_true c18
     have ac5:=decide_eq_true c18
     try have Re:(9223372036854775807 < ((⟨#[64]⟩:ByteArray) ++ mo).size + 1)=False:=eq_false (Nat.not_lt.2 c18)
     try (have NW:=Re;simp only [ByteArray.size_append] at NW)
     try have ac6:(9223372036854775807 < (1 + mo.size) + 1)=False:=NW
     obtain ⟨c19,H⟩:=jA H
     have ac7:=eq_true c19
     have ac8:=decide_eq_true c19
     try have Rf:(9223372036854775807 < (((⟨#[64]⟩:ByteArray) ++ mo) ++ (⟨#[58]⟩:ByteArray)).size + vZ.size)=False:=eq_false (Nat.not_lt.2 c19)
     try (have NY:=Rf;simp only [ByteArray.size_append] at NY)
     try have ac9:(9223372036854775807 < (1 + mo.size + 1) + vZ.size)=False:=NY
     obtain ⟨c20,H⟩:=jA H
     have qA:=eq_true c20
     have ada:=decide_eq_true c20
     try have Rg:(9223372036854775807 < 1 + ((((⟨#[64]⟩:ByteArray) ++ mo) ++ (⟨#[58]⟩:ByteArray)) ++ vZ).size)=False:=eq_false (Nat.not_lt.2 c20)
     try (have NZ:=Rg;simp only [ByteArray.size_append] at NZ)
     try have adb:(9223372036854775807 < 1 + (1 + mo.size + 1 + vZ.size))=False:=NZ
     obtain ⟨c21,H⟩:=jA H
     have FN:=eq_true c21
     have JI:=decide_eq_true c21
     try have Rh:(9223372036854775807 < ((⟨#[60]⟩:ByteArray) ++ ((((⟨#[64]⟩:ByteArray) ++ mo) ++ (⟨#[58]⟩:ByteArray)) ++ vZ)).size + 1)=False:=eq_false (Nat.not_lt.2 c21)
     try (have N0:=Rh;simp only [ByteArray.size_append] at N0)
     try have ade:(9223372036854775807 < (1 + (1 + mo.size + 1 + vZ.size)) + 1)=False:=N0
     simp only [Option.some.injEq,Prod.mk.injEq] at H
     obtain ⟨rfl,rfl⟩:=H
     go_enter Tryz.func21,Tryz.ntmps21
     go_wp2_with (first|((with_reducible refine cU (N:=1) rfl ?_);refine cL ?hg (N:=1) ?hd (cs:=#[.bool false,.slice cI bG.length cJ,.string bC,.string bI,.bool bJ]) (t:=32) ?hr ?_;(case hd=>rfl);(case hg=>rfl);(case hr=>first|(go_simp;done)|(go_simp;rfl));intro dH hg GA dg hb;have bX:=af.mk (dg);have FR:=af.mk ((eo:w.heap.size≤dH));have Ak:=af.mk ((eo:w.heap.size≤dH));replace HB:=af.mk (aH bS hb);clear hb dg hg;have Md:GA.cell? ⟨dH,0,none⟩=some (.bool false):=(ah bX.out 0).trans rfl;have Me:GA.cell? ⟨dH,1,none⟩=some (.slice cI bG.length cJ):=(ah bX.out 1).trans rfl;have Mf:GA.cell? ⟨dH,2,none⟩=some (.string bC):=(ah bX.out 2).trans rfl;have Mg:GA.cell? ⟨dH,3,none⟩=some (.string bI):=(ah bX.out 3).trans rfl;have Mh:GA.cell? ⟨dH,4,none⟩=some (.bool bJ):=(ah bX.out 4).trans rfl;have Mi:=aa bX.out 0;have Mj:=aa bX.out 1;have Mk:=aa bX.out 2;have Ml:=aa bX.out 3;have Mm:=aa bX.out 4)|((with_reducible refine aU (f:=20) rfl ?_);refine bY (some 8) rfl rfl Tryz.func20 ay rfl #[.agg #[.bool false,.slice cI bG.length cJ,.string bC,.string bI,.bool bJ]] rfl cr ?_;(with_reducible refine (dZ.calls k false _ _ bG bC bI bJ true _ ?aX ?bL ?eF A2.out).mono ?_);(case aX=>repeat (first|exact (Kd.fR jK.out HB.out)|(with_reducible refine Kd.gu ?_ _)|(with_reducible refine Kd.gv ?_ _)|(with_reducible refine Kd.iB ?_)));(case bL=>exact kF.out);(case eF=>exact aQ.below HG.out iP);rintro e Hr ⟨rfl,hb⟩;refine ⟨_,rfl,?_⟩;replace bX:=af.mk (bq oZ hb);replace HB:=af.mk (aH iP hb);(try clear hb);have uG:Hr.cell? ⟨dH,0,none⟩=some (.bool false):=(ah bX.out 0).trans rfl;have uH:Hr.cell? ⟨dH,1,none⟩=some (.slice cI bG.length cJ):=(ah bX.out 1).trans rfl;have uI:Hr.cell? ⟨dH,2,none⟩=some (.string bC):=(ah bX.out 2).trans rfl;have Fz:Hr.cell? ⟨dH,3,none⟩=some (.string bI):=(ah bX.out 3).trans rfl;have FA:Hr.cell? ⟨dH,4,none⟩=some (.bool bJ):=(ah bX.out 4).trans rfl;have uJ:=aa bX.out 0;have uK:=aa bX.out 1;have uL:=aa bX.out 2;have FB:=aa bX.out 3;have FC:=aa bX.out 4)|((with_reducible refine aU (f:=22) rfl ?_);refine bY (some 21) rfl rfl Tryz.func22 ay rfl #[.agg #[.string bC,.string bI,.bool bJ]] rfl cr ?_;(with_reducible refine (eG.calls k bC bI bJ vZ Rc _ ?aX IV.out).mono ?_);(case aX=>exact aQ.below HG.out iP);rintro e Lr ⟨rfl,hb⟩;refine ⟨_,rfl,?_⟩;replace bX:=af.mk (bq oZ hb);replace HB:=af.mk (aH iP hb);(try clear hb);have EP:Lr.cell? ⟨dH,0,none⟩=some (.bool false):=(ah bX.out 0).trans rfl;have ER:Lr.cell? ⟨dH,1,none⟩=some (.slice cI bG.length cJ):=(ah bX.out 1).trans rfl;have LW:Lr.cell? ⟨dH,2,none⟩=some (.string bC):=(ah bX.out 2).trans rfl;have LX:Lr.cell? ⟨dH,3,none⟩=some (.string bI):=(ah bX.out 3).trans rfl;have LY:Lr.cell? ⟨dH,4,none⟩=some (.bool bJ):=(ah bX.out 4).trans rfl;have ES:=aa bX.out 0;have ET:=aa bX.out 1;have LZ:=aa bX.out 2;have L1:=aa bX.out 3;have L3:=aa bX.out 4)|((with_reducible refine aU (f:=66) rfl ?_);refine bY (some 30) rfl rfl Tryz.func66 ay rfl #[.slice cI bG.length cJ,.string (⟨#[44,64]⟩:ByteArray)] rfl cr ?_;(with_reducible refine (strings_Join.calls _ _ bG (⟨#[44,64]⟩:ByteArray) mo _ ?aX ?bL PD.out).mono ?_);(case aX=>repeat (first|exact (Kd.fR jK.out HB.out)|(with_reducible refine Kd.gu ?_ _)|(with_reducible refine Kd.gv ?_ _)|(with_reducible refine Kd.iB ?_)));(case bL=>exact kF.out);rintro e w28 ⟨rfl,hb⟩;refine ⟨_,rfl,?_⟩;replace bX:=af.mk (bq oZ hb);replace HB:=af.mk (aH iP hb);(try clear hb)))
     go_ret2
     exact ⟨cM,iP⟩
    ·rw [if_neg c15] at H
     have vI:decide (0 < (bG.length:Int))=false:=decide_eq_false c15
     have vJ:decide (0 < bG.length)=false:=decide_eq_false ak
     clear c15
     obtain ⟨JJ,H⟩:=jA H
     have JK:=eq_true JJ
     have JL:=decide_eq_true JJ
     try have FT:(9223372036854775807 < 1 + vZ.size)=False:=eq_false (Nat.not_lt.2 JJ)
     obtain ⟨PB,H⟩:=jA H
     have adf:=eq_true PB
     have adg:=decide_eq_true PB
     try have Ri:(9223372036854775807 < ((⟨#[60]⟩:ByteArray) ++ vZ).size + 1)=False:=eq_false (Nat.not_lt.2 PB)
     try (have N1:=Ri;simp only [ByteArray.size_append] at N1)
     try have adh:(9223372036854775807 < (1 + vZ.size) + 1)=False:=N1
     simp only [Option.some.injEq,Prod.mk.injEq] at H
     obtain ⟨rfl,rfl⟩:=H
     go_enter Tryz.func21,Tryz.ntmps21
     go_wp2_with (first|((with_reducible refine cU (N:=1) rfl ?_);refine cL ?hg (N:=1) ?hd (cs:=#[.bool false,.slice cI bG.length cJ,.string bC,.string bI,.bool bJ]) (t:=32) ?hr ?_;(case hd=>rfl);(case hg=>rfl);(case hr=>first|(go_simp;done)|(go_simp;rfl));intro dH hg OZ dg hb;have bX:=af.mk (dg);have FR:=af.mk ((eo:w.heap.size≤dH));have Ak:=af.mk ((eo:w.heap.size≤dH));replace HB:=af.mk (aH bS hb);clear hb dg hg;have WB:OZ.cell? ⟨dH,0,none⟩=some (.bool false):=(ah bX.out 0).trans rfl;have WC:OZ.cell? ⟨dH,1,none⟩=some (.slice cI bG.length cJ):=(ah bX.out 1).trans rfl;have WD:OZ.cell? ⟨dH,2,none⟩=some (.string bC):=(ah bX.out 2).trans rfl;have WE:OZ.cell? ⟨dH,3,none⟩=some (.string bI):=(ah bX.out 3).trans rfl;have WG:OZ.cell? ⟨dH,4,none⟩=some (.bool bJ):=(ah bX.out 4).trans rfl;have WH:=aa bX.out 0;have WI:=aa bX.out 1;have WJ:=aa bX.out 2;have WK:=aa bX.out 3;have WL:=aa bX.out 4)|((with_reducible refine aU (f:=20) rfl ?_);refine bY (some 8) rfl rfl Tryz.func20 ay rfl #[.agg #[.bool false,.slice cI bG.length cJ,.string bC,.string bI,.bool bJ]] rfl cr ?_;(with_reducible refine (dZ.calls k false _ _ bG bC bI bJ true _ ?aX ?bL ?eF A2.out).mono ?_);(case aX=>repeat (first|exact (Kd.fR jK.out HB.out)|(with_reducible refine Kd.gu ?_ _)|(with_reducible refine Kd.gv ?_ _)|(with_reducible refine Kd.iB ?_)));(case bL=>exact kF.out);(case eF=>exact aQ.below HG.out iP);rintro e OH ⟨rfl,hb⟩;refine ⟨_,rfl,?_⟩;replace bX:=af.mk (bq oZ hb);replace HB:=af.mk (aH iP hb);(try clear hb);have WM:OH.cell? ⟨dH,0,none⟩=some (.bool false):=(ah bX.out 0).trans rfl;have WN:OH.cell? ⟨dH,1,none⟩=some (.slice cI bG.length cJ):=(ah bX.out 1).trans rfl;have WO:OH.cell? ⟨dH,2,none⟩=some (.string bC):=(ah bX.out 2).trans rfl;have WQ:OH.cell? ⟨dH,3,none⟩=some (.string bI):=(ah bX.out 3).trans rfl;have WR:OH.cell? ⟨dH,4,none⟩=some (.bool bJ):=(ah bX.out 4).trans rfl;have WS:=aa bX.out 0;have WT:=aa bX.out 1;have WU:=aa bX.out 2;have WV:=aa bX.out 3;have WW:=aa bX.out 4)|((with_reducible refine aU (f:=22) rfl ?_);refine bY (some 21) rfl rfl Tryz.func22 ay rfl #[.agg #[.string bC,.string bI,.bool bJ]] rfl cr ?_;(with_reducible refine (eG.calls k bC bI bJ vZ Rc _ ?aX IV.out).mono ?_);(case aX=>exact aQ.below HG.out iP);rintro e PL ⟨rfl,hb⟩;refine ⟨_,rfl,?_⟩;replace bX:=af.mk (bq oZ hb);replace HB:=af.mk (aH iP hb);(try clear hb);have Lu:PL.cell? ⟨dH,0,none⟩=some (.bool false):=(ah bX.out 0).trans rfl;have Lv:PL.cell? ⟨dH,1,none⟩=some (.slice cI bG.length cJ):=(ah bX.out 1).trans rfl;have Lx:PL.cell? ⟨dH,2,none⟩=some (.string bC):=(ah bX.out 2).trans rfl;have WX:PL.cell? ⟨dH,3,none⟩=some (.string bI):=(ah bX.out 3).trans rfl;have WY:PL.cell? ⟨dH,4,none⟩=some (.bool bJ):=(ah bX.out 4).trans rfl;have Lz:=aa bX.out 0;have LA:=aa bX.out 1;have LB:=aa bX.out 2;have WZ:=aa bX.out 3;have W4:=aa bX.out 4))
     go_ret2
     exact ⟨cM,iP⟩
 ·replace c3:=Bool.eq_false_iff.mpr c3
  subst c3
  rw [if_neg (show ¬ (false=true) by decide)] at H
  simp only [Option.some.injEq,Prod.mk.injEq] at H
  obtain ⟨rfl,rfl⟩:=H
  go_enter Tryz.func21,Tryz.ntmps21
  go_wp2_with (first|((with_reducible refine cU (N:=1) rfl ?_);refine cL ?hg (N:=1) ?hd (cs:=#[.bool bD,.slice cI bG.length cJ,.string bC,.string bI,.bool bJ]) (t:=32) ?hr ?_;(case hd=>rfl);(case hg=>rfl);(case hr=>first|(go_simp;done)|(go_simp;rfl));intro dH hg PM dg hb;have bX:=af.mk (dg);have FR:=af.mk ((eo:w.heap.size≤dH));have Ak:=af.mk ((eo:w.heap.size≤dH));replace HB:=af.mk (aH bS hb);clear hb dg hg;have W5:PM.cell? ⟨dH,0,none⟩=some (.bool bD):=(ah bX.out 0).trans rfl;have W6:PM.cell? ⟨dH,1,none⟩=some (.slice cI bG.length cJ):=(ah bX.out 1).trans rfl;have W7:PM.cell? ⟨dH,2,none⟩=some (.string bC):=(ah bX.out 2).trans rfl;have W8:PM.cell? ⟨dH,3,none⟩=some (.string bI):=(ah bX.out 3).trans rfl;have W9:PM.cell? ⟨dH,4,none⟩=some (.bool bJ):=(ah bX.out 4).trans rfl;have Xa:=aa bX.out 0;have Xb:=aa bX.out 1;have Xc:=aa bX.out 2;have Xd:=aa bX.out 3;have Xe:=aa bX.out 4)|((with_reducible refine aU (f:=20) rfl ?_);refine bY (some 8) rfl rfl Tryz.func20 ay rfl #[.agg #[.bool bD,.slice cI bG.length cJ,.string bC,.string bI,.bool bJ]] rfl cr ?_;(with_reducible refine (dZ.calls k bD _ _ bG bC bI bJ false _ ?aX ?bL ?eF A2.out).mono ?_);(case aX=>repeat (first|exact (Kd.fR jK.out HB.out)|(with_reducible refine Kd.gu ?_ _)|(with_reducible refine Kd.gv ?_ _)|(with_reducible refine Kd.iB ?_)));(case bL=>exact kF.out);(case eF=>exact aQ.below HG.out iP);rintro e w39 ⟨rfl,hb⟩;refine ⟨_,rfl,?_⟩;replace bX:=af.mk (bq oZ hb);replace HB:=af.mk (aH iP hb);(try clear hb)))
  go_ret2
  exact ⟨cM,iP⟩
end Go.Proofs.YtokpnfljjjjikaaGreatDoor.lO
