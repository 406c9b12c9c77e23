import Derived.Test.YtokpnfljjjjikaaGreatDoorQPtx12
import Derived.Test.YtokpnfljjjjikaaGreatDoorEBox
import Derived.Test.YtokpnfljjjjikaaGreatDoorEJoin
namespace Go.Proofs.YtokpnfljjjjikaaGreatDoor.mY
open Go.RowKit Go.Proofs.YtokpnfljjjjikaaGreatDoor.qP Go.Proofs.aj.bO Go.Proofs.aj.fA Go.Proofs.aj.cK
attribute [local go_sem] ia ig iU iV gf gh ij iq
set_option linter.unusedVariables false
set_option linter.unusedSimpArgs false
def jM.f (k:Nat) (bS:Bool) (cC:List ByteArray) (cg:ByteArray) (cN:ByteArray) (cR:Bool):Option (ByteArray×Int):=(gq.f k bS cC cg cN cR).bind fun Wx=>(if Wx=true then (if bS=true then (some ((⟨#[60,62]⟩:ByteArray),0)) else (if cN.toList=([]:List UInt8) then (some ((⟨#[60,112,111,115,116,109,97,115,116,101,114,62]⟩:ByteArray),0)) else ((gP.f k cg cN cR).bind fun pU=>(if (cC.length:Int) > 0 then ((strings_Join.f cC (⟨#[44,64]⟩:ByteArray)).bind fun rV=>(if 1 + rV.size≤9223372036854775807 then (if ((⟨#[64]⟩:ByteArray) ++ rV).size + 1≤9223372036854775807 then (if (((⟨#[64]⟩:ByteArray) ++ rV) ++ (⟨#[58]⟩:ByteArray)).size + pU.1.size≤9223372036854775807 then (if 1 + ((((⟨#[64]⟩:ByteArray) ++ rV) ++ (⟨#[58]⟩:ByteArray)) ++ pU.1).size≤9223372036854775807 then (if ((⟨#[60]⟩:ByteArray) ++ ((((⟨#[64]⟩:ByteArray) ++ rV) ++ (⟨#[58]⟩:ByteArray)) ++ pU.1)).size + 1≤9223372036854775807 then (some (((⟨#[60]⟩:ByteArray) ++ ((((⟨#[64]⟩:ByteArray) ++ rV) ++ (⟨#[58]⟩:ByteArray)) ++ pU.1)) ++ (⟨#[62]⟩:ByteArray),pU.2)) else (none)) else (none)) else (none)) else (none)) else (none))) else (if 1 + pU.1.size≤9223372036854775807 then (if ((⟨#[60]⟩:ByteArray) ++ pU.1).size + 1≤9223372036854775807 then (some (((⟨#[60]⟩:ByteArray) ++ pU.1) ++ (⟨#[62]⟩:ByteArray),pU.2)) else (none)) else (none)))))) else (some ((⟨#[]⟩:ByteArray),150)))
set_option maxHeartbeats 8000000 in
set_option maxRecDepth 100000 in
theorem jM.calls (k:Nat) (bS:Bool) (fC:Option Addr) (fD:Nat) (cC:List ByteArray) (cg:ByteArray) (cN:ByteArray) (cR:Bool) (r1:ByteArray) (r2:Int) (w:World) (oX:Kd.C Kd.string w fC cC.length cC) (oY:cC.length≤fD) (hG:aJ w) (h:jM.f k bS cC cg cN cR=some (r1,r2)):
 Calls Tryz.prog 21 #[.agg #[.bool bS,.slice fC cC.length fD,.string cg,.string cN,.bool cR]] w fun e w'=>e= .returned (.tuple #[.string r1,.int .i64 r2])∧Below w.heap.size w w':=by
 have DA:=Tryz.underlying32
 have wT:=Tryz.underlying30
 have mI:=aa.mk oX
 have oZ:=aa.mk oY
 clear oX oY
 have HB:=aa.mk (Below.refl w.heap.size w)
 have HG:=aa.mk hG
 clear hG
 have H:((gq.f k bS cC cg cN cR).bind fun Wx=>(if Wx=true then (if bS=true then (some ((⟨#[60,62]⟩:ByteArray),0)) else (if cN.toList=([]:List UInt8) then (some ((⟨#[60,112,111,115,116,109,97,115,116,101,114,62]⟩:ByteArray),0)) else ((gP.f k cg cN cR).bind fun pU=>(if (cC.length:Int) > 0 then ((strings_Join.f cC (⟨#[44,64]⟩:ByteArray)).bind fun rV=>(if 1 + rV.size≤9223372036854775807 then (if ((⟨#[64]⟩:ByteArray) ++ rV).size + 1≤9223372036854775807 then (if (((⟨#[64]⟩:ByteArray) ++ rV) ++ (⟨#[58]⟩:ByteArray)).size + pU.1.size≤9223372036854775807 then (if 1 + ((((⟨#[64]⟩:ByteArray) ++ rV) ++ (⟨#[58]⟩:ByteArray)) ++ pU.1).size≤9223372036854775807 then (if ((⟨#[60]⟩:ByteArray) ++ ((((⟨#[64]⟩:ByteArray) ++ rV) ++ (⟨#[58]⟩:ByteArray)) ++ pU.1)).size + 1≤9223372036854775807 then (some (((⟨#[60]⟩:ByteArray) ++ ((((⟨#[64]⟩:ByteArray) ++ rV) ++ (⟨#[58]⟩:ByteArray)) ++ pU.1)) ++ (⟨#[62]⟩:ByteArray),pU.2)) else (none)) else (none)) else (none)) else (none)) else (none))) else (if 1 + pU.1.size≤9223372036854775807 then (if ((⟨#[60]⟩:ByteArray) ++ pU.1).size + 1≤9223372036854775807 then (some (((⟨#[60]⟩:ByteArray) ++ pU.1) ++ (⟨#[62]⟩:ByteArray),pU.2)) else (none)) else (none)))))) else (some ((⟨#[]⟩:ByteArray),150))))=some (r1,r2):=h
 clear h
 obtain ⟨Wx,A2,H⟩:=bd_ H
 by_cases c3:Wx=true
 ·subst c3
  rw [if_pos rfl] at H
  by_cases c4:bS=true
  ·subst c4
   rw [if_pos rfl] at H
   simp only [Option.some.injEq,Prod.mk.injEq] at H
   obtain ⟨rfl,rfl⟩:=H
   go_enter Tryz.func21,Tryz.ntmps21
   go_wp2_with (first|((with_reducible refine cB (N:=1) rfl ?_);refine cj ?hg (N:=1) ?hd (cs:=#[.bool true,.slice fC cC.length fD,.string cg,.string cN,.bool cR]) (t:=32) ?hr ?_;(case hd=>rfl);(case hg=>rfl);(case hr=>first|(go_simp;done)|(go_simp;rfl));intro fP hg w5 cE hb;have dg:=aa.mk (cE);have Sb:=aa.mk ((dI:w.heap.size≤fP));have Lg:=aa.mk ((dI:w.heap.size≤fP));replace HB:=aa.mk (aA bG hb);clear hb cE hg;have Oa:w5.cell? ⟨fP,0,none⟩=some (.bool true):=(ah dg.out 0).trans rfl;have Ob:w5.cell? ⟨fP,1,none⟩=some (.slice fC cC.length fD):=(ah dg.out 1).trans rfl;have Wy:w5.cell? ⟨fP,2,none⟩=some (.string cg):=(ah dg.out 2).trans rfl;have Wz:w5.cell? ⟨fP,3,none⟩=some (.string cN):=(ah dg.out 3).trans rfl;have WA:w5.cell? ⟨fP,4,none⟩=some (.bool cR):=(ah dg.out 4).trans rfl;have Oc:=af dg.out 0;have Od:=af dg.out 1;have WB:=af dg.out 2;have WC:=af dg.out 3;have WD:=af dg.out 4)|((with_reducible refine aK (f:=20) rfl ?_);refine bU (some 8) rfl rfl Tryz.func20 aq rfl #[.agg #[.bool true,.slice fC cC.length fD,.string cg,.string cN,.bool cR]] rfl cz ?_;(with_reducible refine (gq.calls k true _ _ cC cg cN cR true _ ?aT ?cw ?fO A2.out).mono ?_);(case aT=>repeat (first|exact (Kd.jK mI.out HB.out)|(with_reducible refine Kd.jg ?_ _)|(with_reducible refine Kd.jh ?_ _)|(with_reducible refine Kd.kL ?_)));(case cw=>exact oZ.out);(case fO=>exact aJ.below HG.out mB);rintro e w7 ⟨rfl,hb⟩;refine ⟨_,rfl,?_⟩;replace dg:=aa.mk (aC wC hb);replace HB:=aa.mk (aA mB hb);(try clear hb);have zy:w7.cell? ⟨fP,0,none⟩=some (.bool true):=(ah dg.out 0).trans rfl;have zz:w7.cell? ⟨fP,1,none⟩=some (.slice fC cC.length fD):=(ah dg.out 1).trans rfl;have Fq:w7.cell? ⟨fP,2,none⟩=some (.string cg):=(ah dg.out 2).trans rfl;have Oj:w7.cell? ⟨fP,3,none⟩=some (.string cN):=(ah dg.out 3).trans rfl;have Ol:w7.cell? ⟨fP,4,none⟩=some (.bool cR):=(ah dg.out 4).trans rfl;have zA:=af dg.out 0;have zB:=af dg.out 1;have Fu:=af dg.out 2;have Om:=af dg.out 3;have Oo:=af dg.out 4))
   go_ret2
   exact ⟨cH,mB⟩
  ·replace c4:=Bool.eq_false_iff.mpr c4
   subst c4
   rw [if_neg (show ¬ (false=true) by decide)] at H
   by_cases c9:cN.toList=([]:List UInt8)
   ·rw [if_pos c9] at H
    have Cg:=beq_iff_eq.mpr c9
    have TB:=bne_eq_false_iff_eq.mpr c9
    clear c9
    simp only [Option.some.injEq,Prod.mk.injEq] at H
    obtain ⟨rfl,rfl⟩:=H
    go_enter Tryz.func21,Tryz.ntmps21
    go_wp2_with (first|((with_reducible refine cB (N:=1) rfl ?_);refine cj ?hg (N:=1) ?hd (cs:=#[.bool false,.slice fC cC.length fD,.string cg,.string cN,.bool cR]) (t:=32) ?hr ?_;(case hd=>rfl);(case hg=>rfl);(case hr=>first|(go_simp;done)|(go_simp;rfl));intro fP hg um cE hb;have dg:=aa.mk (cE);have Sb:=aa.mk ((dI:w.heap.size≤fP));have Lg:=aa.mk ((dI:w.heap.size≤fP));replace HB:=aa.mk (aA bG hb);clear hb cE hg;have AZ:um.cell? ⟨fP,0,none⟩=some (.bool false):=(ah dg.out 0).trans rfl;have Ba:um.cell? ⟨fP,1,none⟩=some (.slice fC cC.length fD):=(ah dg.out 1).trans rfl;have Bb:um.cell? ⟨fP,2,none⟩=some (.string cg):=(ah dg.out 2).trans rfl;have Z3:um.cell? ⟨fP,3,none⟩=some (.string cN):=(ah dg.out 3).trans rfl;have Z4:um.cell? ⟨fP,4,none⟩=some (.bool cR):=(ah dg.out 4).trans rfl;have Bc:=af dg.out 0;have Bd:=af dg.out 1;have Be:=af dg.out 2;have Z5:=af dg.out 3;have Z6:=af dg.out 4)|((with_reducible refine aK (f:=20) rfl ?_);refine bU (some 8) rfl rfl Tryz.func20 aq rfl #[.agg #[.bool false,.slice fC cC.length fD,.string cg,.string cN,.bool cR]] rfl cz ?_;(with_reducible refine (gq.calls k false _ _ cC cg cN cR true _ ?aT ?cw ?fO A2.out).mono ?_);(case aT=>repeat (first|exact (Kd.jK mI.out HB.out)|(with_reducible refine Kd.jg ?_ _)|(with_reducible refine Kd.jh ?_ _)|(with_reducible refine Kd.kL ?_)));(case cw=>exact oZ.out);(case fO=>exact aJ.below HG.out mB);rintro e Ld ⟨rfl,hb⟩;refine ⟨_,rfl,?_⟩;replace dg:=aa.mk (aC wC hb);replace HB:=aa.mk (aA mB hb);(try clear hb);have qD:Ld.cell? ⟨fP,0,none⟩=some (.bool false):=(ah dg.out 0).trans rfl;have qE:Ld.cell? ⟨fP,1,none⟩=some (.slice fC cC.length fD):=(ah dg.out 1).trans rfl;have vo:Ld.cell? ⟨fP,2,none⟩=some (.string cg):=(ah dg.out 2).trans rfl;have Ek:Ld.cell? ⟨fP,3,none⟩=some (.string cN):=(ah dg.out 3).trans rfl;have El:Ld.cell? ⟨fP,4,none⟩=some (.bool cR):=(ah dg.out 4).trans rfl;have qF:=af dg.out 0;have qG:=af dg.out 1;have vp:=af dg.out 2;have Em:=af dg.out 3;have En:=af dg.out 4))
    go_ret2
    exact ⟨cH,mB⟩
   ·rw [if_neg c9] at H
    have Cg:=beq_eq_false_iff_ne.mpr c9
    have TB:=bne_iff_ne.mpr c9
    obtain ⟨⟨FE,ags⟩,UK,H⟩:=bd_ H
    (try dsimp only at H)
    by_cases c15:(cC.length:Int) > 0
    ·rw [if_pos c15] at H
     have tL:decide (0 < (cC.length:Int))=true:=decide_eq_true c15
     have CU:decide (0 < cC.length)=true:=decide_eq_true ak
     clear c15
     obtain ⟨rV,A16,H⟩:=bd_ H
     obtain ⟨c17,H⟩:=iA H
     have wO:=eq_true c17
     have ab6:=decide_eq_true c17
     try have asE:(9223372036854775807 < 1 + rV.size)=False:=eq_false (Nat.not_lt.2 c17)
     obtain ⟨c18,H⟩:=iA H
     have xd:=eq_true c18
     have Mr:=decide_eq_true c18
     try have WE:(9223372036854775807 < ((⟨#[64]⟩:ByteArray) ++ rV).size + 1)=False:=eq_false (Nat.not_lt.2 c18)
     try (have Ms:=WE;simp only [ByteArray.size_append] at Ms)
     try have agt:(9223372036854775807 < (1 + rV.size) + 1)=False:=Ms
     obtain ⟨c19,H⟩:=iA H
     have zj:=eq_true c19
     have Sc:=decide_eq_true c19
     try have agu:(9223372036854775807 < (((⟨#[64]⟩:ByteArray) ++ rV) ++ (⟨#[58]⟩:ByteArray)).size + FE.size)=False:=eq_false (Nat.not_lt.2 c19)
     try (have ab7:=agu;simp only [ByteArray.size_append] at ab7)
     try have asF:(9223372036854775807 < (1 + rV.size + 1) + FE.size)=False:=ab7
     obtain ⟨c20,H⟩:=iA H
     have Fz:=eq_true c20
     have ab8:=decide_eq_true c20
     try have Sd:(9223372036854775807 < 1 + ((((⟨#[64]⟩:ByteArray) ++ rV) ++ (⟨#[58]⟩:ByteArray)) ++ FE).size)=False:=eq_false (Nat.not_lt.2 c20)
     try (have Mt:=Sd;simp only [ByteArray.size_append] at Mt)
     try have agv:(9223372036854775807 < 1 + (1 + rV.size + 1 + FE.size))=False:=Mt
     obtain ⟨c21,H⟩:=iA H
     have wW:=eq_true c21
     have Sg:=decide_eq_true c21
     try have agw:(9223372036854775807 < ((⟨#[60]⟩:ByteArray) ++ ((((⟨#[64]⟩:ByteArray) ++ rV) ++ (⟨#[58]⟩:ByteArray)) ++ FE)).size + 1)=False:=eq_false (Nat.not_lt.2 c21)
     try (have ab9:=agw;simp only [ByteArray.size_append] at ab9)
     try have asG:(9223372036854775807 < (1 + (1 + rV.size + 1 + FE.size)) + 1)=False:=ab9
     simp only [Option.some.injEq,Prod.mk.injEq] at H
     obtain ⟨rfl,rfl⟩:=H
     go_enter Tryz.func21,Tryz.ntmps21
     go_wp2_with (first|((with_reducible refine cB (N:=1) rfl ?_);refine cj ?hg (N:=1) ?hd (cs:=#[.bool false,.slice fC cC.length fD,.string cg,.string cN,.bool cR]) (t:=32) ?hr ?_;(case hd=>rfl);(case hg=>rfl);(case hr=>first|(go_simp;done)|(go_simp;rfl));intro fP hg BN cE hb;have dg:=aa.mk (cE);have Sb:=aa.mk ((dI:w.heap.size≤fP));have Lg:=aa.mk ((dI:w.heap.size≤fP));replace HB:=aa.mk (aA bG hb);clear hb cE hg;have Kr:BN.cell? ⟨fP,0,none⟩=some (.bool false):=(ah dg.out 0).trans rfl;have Ks:BN.cell? ⟨fP,1,none⟩=some (.slice fC cC.length fD):=(ah dg.out 1).trans rfl;have Kt:BN.cell? ⟨fP,2,none⟩=some (.string cg):=(ah dg.out 2).trans rfl;have Ku:BN.cell? ⟨fP,3,none⟩=some (.string cN):=(ah dg.out 3).trans rfl;have Kv:BN.cell? ⟨fP,4,none⟩=some (.bool cR):=(ah dg.out 4).trans rfl;have Kw:=af dg.out 0;have Ky:=af dg.out 1;have Kz:=af dg.out 2;have KA:=af dg.out 3;have KB:=af dg.out 4)|((with_reducible refine aK (f:=20) rfl ?_);refine bU (some 8) rfl rfl Tryz.func20 aq rfl #[.agg #[.bool false,.slice fC cC.length fD,.string cg,.string cN,.bool cR]] rfl cz ?_;(with_reducible refine (gq.calls k false _ _ cC cg cN cR true _ ?aT ?cw ?fO A2.out).mono ?_);(case aT=>repeat (first|exact (Kd.jK mI.out HB.out)|(with_reducible refine Kd.jg ?_ _)|(with_reducible refine Kd.jh ?_ _)|(with_reducible refine Kd.kL ?_)));(case cw=>exact oZ.out);(case fO=>exact aJ.below HG.out mB);rintro e RR ⟨rfl,hb⟩;refine ⟨_,rfl,?_⟩;replace dg:=aa.mk (aC wC hb);replace HB:=aa.mk (aA mB hb);(try clear hb);have yc:RR.cell? ⟨fP,0,none⟩=some (.bool false):=(ah dg.out 0).trans rfl;have yf:RR.cell? ⟨fP,1,none⟩=some (.slice fC cC.length fD):=(ah dg.out 1).trans rfl;have yg:RR.cell? ⟨fP,2,none⟩=some (.string cg):=(ah dg.out 2).trans rfl;have Rq:RR.cell? ⟨fP,3,none⟩=some (.string cN):=(ah dg.out 3).trans rfl;have Rs:RR.cell? ⟨fP,4,none⟩=some (.bool cR):=(ah dg.out 4).trans rfl;have yh:=af dg.out 0;have yj:=af dg.out 1;have yl:=af dg.out 2;have Rt:=af dg.out 3;have Ru:=af dg.out 4)|((with_reducible refine aK (f:=22) rfl ?_);refine bU (some 21) rfl rfl Tryz.func22 aq rfl #[.agg #[.string cg,.string cN,.bool cR]] rfl cz ?_;(with_reducible refine (gP.calls k cg cN cR FE ags _ ?aT UK.out).mono ?_);(case aT=>exact aJ.below HG.out mB);rintro e VG ⟨rfl,hb⟩;refine ⟨_,rfl,?_⟩;replace dg:=aa.mk (aC wC hb);replace HB:=aa.mk (aA mB hb);(try clear hb);have uZ:VG.cell? ⟨fP,0,none⟩=some (.bool false):=(ah dg.out 0).trans rfl;have u5:VG.cell? ⟨fP,1,none⟩=some (.slice fC cC.length fD):=(ah dg.out 1).trans rfl;have yA:VG.cell? ⟨fP,2,none⟩=some (.string cg):=(ah dg.out 2).trans rfl;have yB:VG.cell? ⟨fP,3,none⟩=some (.string cN):=(ah dg.out 3).trans rfl;have yC:VG.cell? ⟨fP,4,none⟩=some (.bool cR):=(ah dg.out 4).trans rfl;have u7:=af dg.out 0;have u9:=af dg.out 1;have yD:=af dg.out 2;have yE:=af dg.out 3;have yF:=af dg.out 4)|((with_reducible refine aK (f:=66) rfl ?_);refine bU (some 30) rfl rfl Tryz.func66 aq rfl #[.slice fC cC.length fD,.string (⟨#[44,64]⟩:ByteArray)] rfl cz ?_;(with_reducible refine (strings_Join.calls _ _ cC (⟨#[44,64]⟩:ByteArray) rV _ ?aT ?cw A16.out).mono ?_);(case aT=>repeat (first|exact (Kd.jK mI.out HB.out)|(with_reducible refine Kd.jg ?_ _)|(with_reducible refine Kd.jh ?_ _)|(with_reducible refine Kd.kL ?_)));(case cw=>exact oZ.out);rintro e w28 ⟨rfl,hb⟩;refine ⟨_,rfl,?_⟩;replace dg:=aa.mk (aC wC hb);replace HB:=aa.mk (aA mB hb);(try clear hb)))
     go_ret2
     exact ⟨cH,mB⟩
    ·rw [if_neg c15] at H
     have tL:decide (0 < (cC.length:Int))=false:=decide_eq_false c15
     have CU:decide (0 < cC.length)=false:=decide_eq_false ak
     clear c15
     obtain ⟨c29,H⟩:=iA H
     have acd:=eq_true c29
     have agx:=decide_eq_true c29
     try have asH:(9223372036854775807 < 1 + FE.size)=False:=eq_false (Nat.not_lt.2 c29)
     obtain ⟨Fh,H⟩:=iA H
     have Mu:=eq_true Fh
     have agy:=decide_eq_true Fh
     try have agz:(9223372036854775807 < ((⟨#[60]⟩:ByteArray) ++ FE).size + 1)=False:=eq_false (Nat.not_lt.2 Fh)
     try (have ace:=agz;simp only [ByteArray.size_append] at ace)
     try have asI:(9223372036854775807 < (1 + FE.size) + 1)=False:=ace
     simp only [Option.some.injEq,Prod.mk.injEq] at H
     obtain ⟨rfl,rfl⟩:=H
     go_enter Tryz.func21,Tryz.ntmps21
     go_wp2_with (first|((with_reducible refine cB (N:=1) rfl ?_);refine cj ?hg (N:=1) ?hd (cs:=#[.bool false,.slice fC cC.length fD,.string cg,.string cN,.bool cR]) (t:=32) ?hr ?_;(case hd=>rfl);(case hg=>rfl);(case hr=>first|(go_simp;done)|(go_simp;rfl));intro fP hg TF cE hb;have dg:=aa.mk (cE);have Sb:=aa.mk ((dI:w.heap.size≤fP));have Lg:=aa.mk ((dI:w.heap.size≤fP));replace HB:=aa.mk (aA bG hb);clear hb cE hg;have Z7:TF.cell? ⟨fP,0,none⟩=some (.bool false):=(ah dg.out 0).trans rfl;have Z8:TF.cell? ⟨fP,1,none⟩=some (.slice fC cC.length fD):=(ah dg.out 1).trans rfl;have Z9:TF.cell? ⟨fP,2,none⟩=some (.string cg):=(ah dg.out 2).trans rfl;have alQ:TF.cell? ⟨fP,3,none⟩=some (.string cN):=(ah dg.out 3).trans rfl;have alR:TF.cell? ⟨fP,4,none⟩=some (.bool cR):=(ah dg.out 4).trans rfl;have aaa:=af dg.out 0;have aab:=af dg.out 1;have aac:=af dg.out 2;have alS:=af dg.out 3;have alT:=af dg.out 4)|((with_reducible refine aK (f:=20) rfl ?_);refine bU (some 8) rfl rfl Tryz.func20 aq rfl #[.agg #[.bool false,.slice fC cC.length fD,.string cg,.string cN,.bool cR]] rfl cz ?_;(with_reducible refine (gq.calls k false _ _ cC cg cN cR true _ ?aT ?cw ?fO A2.out).mono ?_);(case aT=>repeat (first|exact (Kd.jK mI.out HB.out)|(with_reducible refine Kd.jg ?_ _)|(with_reducible refine Kd.jh ?_ _)|(with_reducible refine Kd.kL ?_)));(case cw=>exact oZ.out);(case fO=>exact aJ.below HG.out mB);rintro e TC ⟨rfl,hb⟩;refine ⟨_,rfl,?_⟩;replace dg:=aa.mk (aC wC hb);replace HB:=aa.mk (aA mB hb);(try clear hb);have Sh:TC.cell? ⟨fP,0,none⟩=some (.bool false):=(ah dg.out 0).trans rfl;have Si:TC.cell? ⟨fP,1,none⟩=some (.slice fC cC.length fD):=(ah dg.out 1).trans rfl;have Sj:TC.cell? ⟨fP,2,none⟩=some (.string cg):=(ah dg.out 2).trans rfl;have aad:TC.cell? ⟨fP,3,none⟩=some (.string cN):=(ah dg.out 3).trans rfl;have aae:TC.cell? ⟨fP,4,none⟩=some (.bool cR):=(ah dg.out 4).trans rfl;have Sk:=af dg.out 0;have Sl:=af dg.out 1;have Sm:=af dg.out 2;have aaf:=af dg.out 3;have aag:=af dg.out 4)|((with_reducible refine aK (f:=22) rfl ?_);refine bU (some 21) rfl rfl Tryz.func22 aq rfl #[.agg #[.string cg,.string cN,.bool cR]] rfl cz ?_;(with_reducible refine (gP.calls k cg cN cR FE ags _ ?aT UK.out).mono ?_);(case aT=>exact aJ.below HG.out mB);rintro e w35 ⟨rfl,hb⟩;refine ⟨_,rfl,?_⟩;replace dg:=aa.mk (aC wC hb);replace HB:=aa.mk (aA mB hb);(try clear hb);have YZ:w35.cell? ⟨fP,0,none⟩=some (.bool false):=(ah dg.out 0).trans rfl;have Y0:w35.cell? ⟨fP,1,none⟩=some (.slice fC cC.length fD):=(ah dg.out 1).trans rfl;have Y1:w35.cell? ⟨fP,2,none⟩=some (.string cg):=(ah dg.out 2).trans rfl;have alU:w35.cell? ⟨fP,3,none⟩=some (.string cN):=(ah dg.out 3).trans rfl;have alV:w35.cell? ⟨fP,4,none⟩=some (.bool cR):=(ah dg.out 4).trans rfl;have Y2:=af dg.out 0;have Y3:=af dg.out 1;have Y4:=af dg.out 2;have alW:=af dg.out 3;have alX:=af dg.out 4))
     go_ret2
     exact ⟨cH,mB⟩
 ·replace c3:=Bool.eq_false_iff.mpr c3
  subst c3
  rw [if_neg (show ¬ (false=true) by decide)] at H
  simp only [Option.some.injEq,Prod.mk.injEq] at H
  obtain ⟨rfl,rfl⟩:=H
  go_enter Tryz.func21,Tryz.ntmps21
  go_wp2_with (first|((with_reducible refine cB (N:=1) rfl ?_);refine cj ?hg (N:=1) ?hd (cs:=#[.bool bS,.slice fC cC.length fD,.string cg,.string cN,.bool cR]) (t:=32) ?hr ?_;(case hd=>rfl);(case hg=>rfl);(case hr=>first|(go_simp;done)|(go_simp;rfl));intro fP hg w37 cE hb;have dg:=aa.mk (cE);have Sb:=aa.mk ((dI:w.heap.size≤fP));have Lg:=aa.mk ((dI:w.heap.size≤fP));replace HB:=aa.mk (aA bG hb);clear hb cE hg;have aah:w37.cell? ⟨fP,0,none⟩=some (.bool bS):=(ah dg.out 0).trans rfl;have aai:w37.cell? ⟨fP,1,none⟩=some (.slice fC cC.length fD):=(ah dg.out 1).trans rfl;have aaj:w37.cell? ⟨fP,2,none⟩=some (.string cg):=(ah dg.out 2).trans rfl;have alY:w37.cell? ⟨fP,3,none⟩=some (.string cN):=(ah dg.out 3).trans rfl;have alZ:w37.cell? ⟨fP,4,none⟩=some (.bool cR):=(ah dg.out 4).trans rfl;have aak:=af dg.out 0;have aal:=af dg.out 1;have aam:=af dg.out 2;have al0:=af dg.out 3;have al1:=af dg.out 4)|((with_reducible refine aK (f:=20) rfl ?_);refine bU (some 8) rfl rfl Tryz.func20 aq rfl #[.agg #[.bool bS,.slice fC cC.length fD,.string cg,.string cN,.bool cR]] rfl cz ?_;(with_reducible refine (gq.calls k bS _ _ cC cg cN cR false _ ?aT ?cw ?fO A2.out).mono ?_);(case aT=>repeat (first|exact (Kd.jK mI.out HB.out)|(with_reducible refine Kd.jg ?_ _)|(with_reducible refine Kd.jh ?_ _)|(with_reducible refine Kd.kL ?_)));(case cw=>exact oZ.out);(case fO=>exact aJ.below HG.out mB);rintro e w39 ⟨rfl,hb⟩;refine ⟨_,rfl,?_⟩;replace dg:=aa.mk (aC wC hb);replace HB:=aa.mk (aA mB hb);(try clear hb)))
  go_ret2
  exact ⟨cH,mB⟩
end Go.Proofs.YtokpnfljjjjikaaGreatDoor.mY
