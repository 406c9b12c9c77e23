import Derived.Test.YtokpnfljjjjikaaGreatDoorZo
import Derived.Test.YtokpnfljjjjikaaGreatDoorQCbx0
import Derived.Test.YtokpnfljjjjikaaGreatDoorQCbx10
import Derived.Test.YtokpnfljjjjikaaGreatDoorQCbx15
import Derived.Test.YtokpnfljjjjikaaGreatDoorEBox
import Derived.Test.YtokpnfljjjjikaaGreatDoorECmd
import Derived.Test.YtokpnfljjjjikaaGreatDoorEJoin
namespace Go.Proofs.YtokpnfljjjjikaaGreatDoor.nX
open Go.RowKit Go.Proofs.aj.bW Go.Proofs.aj.fW Go.Proofs.aj.dz
attribute [local go_sem] jg jh kO kP iK iL ji jk
set_option linter.unusedVariables false
set_option linter.unusedSimpArgs false
def kX.f (k:Nat) (aK:Bool) (dR:List ByteArray) (bg:ByteArray) (eD:ByteArray) (bw:Bool):Option (ByteArray×Int):=(fI.f k aK dR bg eD bw).bind fun Tf=>(if Tf=true then (if aK=true then (some ((⟨#[60,62]⟩:ByteArray),0)) else (if eD.toList=([]:List UInt8) then (some ((⟨#[60,112,111,115,116,109,97,115,116,101,114,62]⟩:ByteArray),0)) else ((iC.f k bg eD bw).bind fun ig=>(if (dR.length:Int) > 0 then ((strings_Join.f dR (⟨#[44,64]⟩:ByteArray)).bind fun iO=>(if 1 + iO.size≤9223372036854775807 then (if ((⟨#[64]⟩:ByteArray) ++ iO).size + 1≤9223372036854775807 then (if (((⟨#[64]⟩:ByteArray) ++ iO) ++ (⟨#[58]⟩:ByteArray)).size + ig.1.size≤9223372036854775807 then (if 1 + ((((⟨#[64]⟩:ByteArray) ++ iO) ++ (⟨#[58]⟩:ByteArray)) ++ ig.1).size≤9223372036854775807 then (if ((⟨#[60]⟩:ByteArray) ++ ((((⟨#[64]⟩:ByteArray) ++ iO) ++ (⟨#[58]⟩:ByteArray)) ++ ig.1)).size + 1≤9223372036854775807 then (some (((⟨#[60]⟩:ByteArray) ++ ((((⟨#[64]⟩:ByteArray) ++ iO) ++ (⟨#[58]⟩:ByteArray)) ++ ig.1)) ++ (⟨#[62]⟩:ByteArray),ig.2)) else (none)) else (none)) else (none)) else (none)) else (none))) else (if 1 + ig.1.size≤9223372036854775807 then (if ((⟨#[60]⟩:ByteArray) ++ ig.1).size + 1≤9223372036854775807 then (some (((⟨#[60]⟩:ByteArray) ++ ig.1) ++ (⟨#[62]⟩:ByteArray),ig.2)) else (none)) else (none)))))) else (some ((⟨#[]⟩:ByteArray),150)))
set_option maxHeartbeats 8000000 in
set_option maxRecDepth 100000 in
theorem kX.calls (k:Nat) (aK:Bool) (iA:Option Addr) (iB:Nat) (dR:List ByteArray) (bg:ByteArray) (eD:ByteArray) (bw:Bool) (r1:ByteArray) (r2:Int) (w:World) (Cu:Kd.C Kd.string w iA dR.length dR) (Cv:dR.length≤iB) (hG:aT w) (h:kX.f k aK dR bg eD bw=some (r1,r2)):
 Calls Tryz.prog 21 #[.agg #[.bool aK,.slice iA dR.length iB,.string bg,.string eD,.bool bw]] w fun e w'=>e= .returned (.tuple #[.string r1,.int .i64 r2])∧Below w.heap.size w w':=by
 have Oi:=Tryz.underlying32
 have LI:=Tryz.underlying30
 have wT:=ah.mk Cu
 have zY:=ah.mk Cv
 clear Cu Cv
 have HB:=ah.mk (Below.refl w.heap.size w)
 have HG:=ah.mk hG
 clear hG
 have H:((fI.f k aK dR bg eD bw).bind fun Tf=>(if Tf=true then (if aK=true then (some ((⟨#[60,62]⟩:ByteArray),0)) else (if eD.toList=([]:List UInt8) then (some ((⟨#[60,112,111,115,116,109,97,115,116,101,114,62]⟩:ByteArray),0)) else ((iC.f k bg eD bw).bind fun ig=>(if (dR.length:Int) > 0 then ((strings_Join.f dR (⟨#[44,64]⟩:ByteArray)).bind fun iO=>(if 1 + iO.size≤9223372036854775807 then (if ((⟨#[64]⟩:ByteArray) ++ iO).size + 1≤9223372036854775807 then (if (((⟨#[64]⟩:ByteArray) ++ iO) ++ (⟨#[58]⟩:ByteArray)).size + ig.1.size≤9223372036854775807 then (if 1 + ((((⟨#[64]⟩:ByteArray) ++ iO) ++ (⟨#[58]⟩:ByteArray)) ++ ig.1).size≤9223372036854775807 then (if ((⟨#[60]⟩:ByteArray) ++ ((((⟨#[64]⟩:ByteArray) ++ iO) ++ (⟨#[58]⟩:ByteArray)) ++ ig.1)).size + 1≤9223372036854775807 then (some (((⟨#[60]⟩:ByteArray) ++ ((((⟨#[64]⟩:ByteArray) ++ iO) ++ (⟨#[58]⟩:ByteArray)) ++ ig.1)) ++ (⟨#[62]⟩:ByteArray),ig.2)) else (none)) else (none)) else (none)) else (none)) else (none))) else (if 1 + ig.1.size≤9223372036854775807 then (if ((⟨#[60]⟩:ByteArray) ++ ig.1).size + 1≤9223372036854775807 then (some (((⟨#[60]⟩:ByteArray) ++ ig.1) ++ (⟨#[62]⟩:ByteArray),ig.2)) else (none)) else (none)))))) else (some ((⟨#[]⟩:ByteArray),150))))=some (r1,r2):=h
 clear h
 replace H:=Option.bind_eq_some_iff.mp H
 obtain ⟨Tf,nK,H⟩:=H
 replace H:(if Tf=true then (if aK=true then (some ((⟨#[60,62]⟩:ByteArray),0)) else (if eD.toList=([]:List UInt8) then (some ((⟨#[60,112,111,115,116,109,97,115,116,101,114,62]⟩:ByteArray),0)) else ((iC.f k bg eD bw).bind fun ig=>(if (dR.length:Int) > 0 then ((strings_Join.f dR (⟨#[44,64]⟩:ByteArray)).bind fun iO=>(if 1 + iO.size≤9223372036854775807 then (if ((⟨#[64]⟩:ByteArray) ++ iO).size + 1≤9223372036854775807 then (if (((⟨#[64]⟩:ByteArray) ++ iO) ++ (⟨#[58]⟩:ByteArray)).size + ig.1.size≤9223372036854775807 then (if 1 + ((((⟨#[64]⟩:ByteArray) ++ iO) ++ (⟨#[58]⟩:ByteArray)) ++ ig.1).size≤9223372036854775807 then (if ((⟨#[60]⟩:ByteArray) ++ ((((⟨#[64]⟩:ByteArray) ++ iO) ++ (⟨#[58]⟩:ByteArray)) ++ ig.1)).size + 1≤9223372036854775807 then (some (((⟨#[60]⟩:ByteArray) ++ ((((⟨#[64]⟩:ByteArray) ++ iO) ++ (⟨#[58]⟩:ByteArray)) ++ ig.1)) ++ (⟨#[62]⟩:ByteArray),ig.2)) else (none)) else (none)) else (none)) else (none)) else (none))) else (if 1 + ig.1.size≤9223372036854775807 then (if ((⟨#[60]⟩:ByteArray) ++ ig.1).size + 1≤9223372036854775807 then (some (((⟨#[60]⟩:ByteArray) ++ ig.1) ++ (⟨#[62]⟩:ByteArray),ig.2)) else (none)) else (none)))))) else (some ((⟨#[]⟩:ByteArray),150)))=some (r1,r2):=H
 have A2:=ah.mk nK
 clear nK
 by_cases c3:Tf=true
 ·subst c3
  have H1:(if aK=true then (some ((⟨#[60,62]⟩:ByteArray),0)) else (if eD.toList=([]:List UInt8) then (some ((⟨#[60,112,111,115,116,109,97,115,116,101,114,62]⟩:ByteArray),0)) else ((iC.f k bg eD bw).bind fun ig=>(if (dR.length:Int) > 0 then ((strings_Join.f dR (⟨#[44,64]⟩:ByteArray)).bind fun iO=>(if 1 + iO.size≤9223372036854775807 then (if ((⟨#[64]⟩:ByteArray) ++ iO).size + 1≤9223372036854775807 then (if (((⟨#[64]⟩:ByteArray) ++ iO) ++ (⟨#[58]⟩:ByteArray)).size + ig.1.size≤9223372036854775807 then (if 1 + ((((⟨#[64]⟩:ByteArray) ++ iO) ++ (⟨#[58]⟩:ByteArray)) ++ ig.1).size≤9223372036854775807 then (if ((⟨#[60]⟩:ByteArray) ++ ((((⟨#[64]⟩:ByteArray) ++ iO) ++ (⟨#[58]⟩:ByteArray)) ++ ig.1)).size + 1≤9223372036854775807 then (some (((⟨#[60]⟩:ByteArray) ++ ((((⟨#[64]⟩:ByteArray) ++ iO) ++ (⟨#[58]⟩:ByteArray)) ++ ig.1)) ++ (⟨#[62]⟩:ByteArray),ig.2)) else (none)) else (none)) else (none)) else (none)) else (none))) else (if 1 + ig.1.size≤9223372036854775807 then (if ((⟨#[60]⟩:ByteArray) ++ ig.1).size + 1≤9223372036854775807 then (some (((⟨#[60]⟩:ByteArray) ++ ig.1) ++ (⟨#[62]⟩:ByteArray),ig.2)) else (none)) else (none))))))=some (r1,r2):=by rw [if_pos rfl] at H;exact H
  clear H
  have H:=H1
  clear H1
  by_cases c4:aK=true
  ·subst c4
   have H1:(some ((⟨#[60,62]⟩:ByteArray),0))=some (r1,r2):=by rw [if_pos rfl] at H;exact H
   clear H
   have H:=H1
   clear H1
   simp only [Option.some.injEq,Prod.mk.injEq] at H
   obtain ⟨rfl,rfl⟩:=H
   go_enter Tryz.func21,Tryz.ntmps21
   go_wp2_with (first|((with_reducible refine cG (N:=1) rfl ?_);refine cj ?hg (N:=1) ?hd (cs:=#[.bool true,.slice iA dR.length iB,.string bg,.string eD,.bool bw]) (t:=32) ?hr ?_;(case hd=>rfl);(case hg=>rfl);(case hr=>first|(go_simp;done)|(go_simp;rfl));intro fu hg w5 cJ hb;have bD:=ah.mk (ay cw hb);have bN:=ah.mk (cJ);have cz:=ah.mk ((dK:w.heap.size≤fu));have cY:=ah.mk ((dK:w.heap.size≤fu));clear HB;have HB:=bD;have dm:=bN;have Sb:=cz;have Ld:=cY;clear bD bN cz cY;clear hb cJ hg;have U7:w5.cell? ⟨fu,0,none⟩=some (.bool true):=(af dm.out 0).trans rfl;have U8:w5.cell? ⟨fu,1,none⟩=some (.slice iA dR.length iB):=(af dm.out 1).trans rfl;have acS:w5.cell? ⟨fu,2,none⟩=some (.string bg):=(af dm.out 2).trans rfl;have acT:w5.cell? ⟨fu,3,none⟩=some (.string eD):=(af dm.out 3).trans rfl;have acU:w5.cell? ⟨fu,4,none⟩=some (.bool bw):=(af dm.out 4).trans rfl;have U9:=aa dm.out 0;have Va:=aa dm.out 1;have acV:=aa dm.out 2;have acW:=aa dm.out 3;have acX:=aa dm.out 4)|((with_reducible refine aN (f:=20) rfl ?_);refine cr (some 8) rfl rfl Tryz.func20 au rfl #[.agg #[.bool true,.slice iA dR.length iB,.string bg,.string eD,.bool bw]] rfl cV ?_;(with_reducible refine (fI.calls k true _ _ dR bg eD bw true _ ?aX ?bS ?dH A2.out).mono ?_);(case aX=>repeat (first|exact (Kd.cI wT.out HB.out)|(with_reducible refine Kd.cK ?_ _)|(with_reducible refine Kd.cL ?_ _)|(with_reducible refine Kd.dG ?_)));(case bS=>exact zY.out);(case dH=>exact aT.below HG.out lT);rintro e w7 ⟨rfl,hb⟩;refine ⟨_,rfl,?_⟩;have bD:=ah.mk (aJ (g:=fu) (o:= .cells #[.bool true,.slice iA dR.length iB,.string bg,.string eD,.bool bw] 32 (0,0)) wK hb);have bN:=ah.mk (ay lT hb);clear dm;clear HB;have dm:=bD;have HB:=bN;clear bD bN;(try clear hb);(try clear hb2);(try clear hk);(try clear hi);have wU:w7.cell? ⟨fu,0,none⟩=some (.bool true):=(af dm.out 0).trans rfl;have wV:w7.cell? ⟨fu,1,none⟩=some (.slice iA dR.length iB):=(af dm.out 1).trans rfl;have BO:w7.cell? ⟨fu,2,none⟩=some (.string bg):=(af dm.out 2).trans rfl;have E7:w7.cell? ⟨fu,3,none⟩=some (.string eD):=(af dm.out 3).trans rfl;have E8:w7.cell? ⟨fu,4,none⟩=some (.bool bw):=(af dm.out 4).trans rfl;have wW:=aa dm.out 0;have wX:=aa dm.out 1;have BP:=aa dm.out 2;have E9:=aa dm.out 3;have Fa:=aa dm.out 4))
   go_ret2
   exact ⟨cZ,lT⟩
  ·replace c4:=Bool.eq_false_iff.mpr c4
   subst c4
   have H1:(if eD.toList=([]:List UInt8) then (some ((⟨#[60,112,111,115,116,109,97,115,116,101,114,62]⟩:ByteArray),0)) else ((iC.f k bg eD bw).bind fun ig=>(if (dR.length:Int) > 0 then ((strings_Join.f dR (⟨#[44,64]⟩:ByteArray)).bind fun iO=>(if 1 + iO.size≤9223372036854775807 then (if ((⟨#[64]⟩:ByteArray) ++ iO).size + 1≤9223372036854775807 then (if (((⟨#[64]⟩:ByteArray) ++ iO) ++ (⟨#[58]⟩:ByteArray)).size + ig.1.size≤9223372036854775807 then (if 1 + ((((⟨#[64]⟩:ByteArray) ++ iO) ++ (⟨#[58]⟩:ByteArray)) ++ ig.1).size≤9223372036854775807 then (if ((⟨#[60]⟩:ByteArray) ++ ((((⟨#[64]⟩:ByteArray) ++ iO) ++ (⟨#[58]⟩:ByteArray)) ++ ig.1)).size + 1≤9223372036854775807 then (some (((⟨#[60]⟩:ByteArray) ++ ((((⟨#[64]⟩:ByteArray) ++ iO) ++ (⟨#[58]⟩:ByteArray)) ++ ig.1)) ++ (⟨#[62]⟩:ByteArray),ig.2)) else (none)) else (none)) else (none)) else (none)) else (none))) else (if 1 + ig.1.size≤9223372036854775807 then (if ((⟨#[60]⟩:ByteArray) ++ ig.1).size + 1≤9223372036854775807 then (some (((⟨#[60]⟩:ByteArray) ++ ig.1) ++ (⟨#[62]⟩:ByteArray),ig.2)) else (none)) else (none)))))=some (r1,r2):=by rw [if_neg (show ¬ (false=true) by decide)] at H;exact H
   clear H
   have H:=H1
   clear H1
   by_cases c9:eD.toList=([]:List UInt8)
   ·rw [if_pos c9] at H
    have SY:(eD.toList == ([]:List UInt8))=true:=beq_iff_eq.mpr c9
    have ad4:(eD.toList != ([]:List UInt8))=false:=bne_eq_false_iff_eq.mpr c9
    clear c9
    simp only [Option.some.injEq,Prod.mk.injEq] at H
    obtain ⟨rfl,rfl⟩:=H
    go_enter Tryz.func21,Tryz.ntmps21
    go_wp2_with (first|((with_reducible refine cG (N:=1) rfl ?_);refine cj ?hg (N:=1) ?hd (cs:=#[.bool false,.slice iA dR.length iB,.string bg,.string eD,.bool bw]) (t:=32) ?hr ?_;(case hd=>rfl);(case hg=>rfl);(case hr=>first|(go_simp;done)|(go_simp;rfl));intro fu hg sV cJ hb;have bD:=ah.mk (ay cw hb);have bN:=ah.mk (cJ);have cz:=ah.mk ((dK:w.heap.size≤fu));have cY:=ah.mk ((dK:w.heap.size≤fu));clear HB;have HB:=bD;have dm:=bN;have Sb:=cz;have Ld:=cY;clear bD bN cz cY;clear hb cJ hg;have sX:sV.cell? ⟨fu,0,none⟩=some (.bool false):=(af dm.out 0).trans rfl;have sY:sV.cell? ⟨fu,1,none⟩=some (.slice iA dR.length iB):=(af dm.out 1).trans rfl;have sZ:sV.cell? ⟨fu,2,none⟩=some (.string bg):=(af dm.out 2).trans rfl;have xS:sV.cell? ⟨fu,3,none⟩=some (.string eD):=(af dm.out 3).trans rfl;have xU:sV.cell? ⟨fu,4,none⟩=some (.bool bw):=(af dm.out 4).trans rfl;have s7:=aa dm.out 0;have s8:=aa dm.out 1;have s9:=aa dm.out 2;have xV:=aa dm.out 3;have xW:=aa dm.out 4)|((with_reducible refine aN (f:=20) rfl ?_);refine cr (some 8) rfl rfl Tryz.func20 au rfl #[.agg #[.bool false,.slice iA dR.length iB,.string bg,.string eD,.bool bw]] rfl cV ?_;(with_reducible refine (fI.calls k false _ _ dR bg eD bw true _ ?aX ?bS ?dH A2.out).mono ?_);(case aX=>repeat (first|exact (Kd.cI wT.out HB.out)|(with_reducible refine Kd.cK ?_ _)|(with_reducible refine Kd.cL ?_ _)|(with_reducible refine Kd.dG ?_)));(case bS=>exact zY.out);(case dH=>exact aT.below HG.out lT);rintro e SX ⟨rfl,hb⟩;refine ⟨_,rfl,?_⟩;have bD:=ah.mk (aJ (g:=fu) (o:= .cells #[.bool false,.slice iA dR.length iB,.string bg,.string eD,.bool bw] 32 (0,0)) wK hb);have bN:=ah.mk (ay lT hb);clear dm;clear HB;have dm:=bD;have HB:=bN;clear bD bN;(try clear hb);(try clear hb2);(try clear hk);(try clear hi);have qC:SX.cell? ⟨fu,0,none⟩=some (.bool false):=(af dm.out 0).trans rfl;have qD:SX.cell? ⟨fu,1,none⟩=some (.slice iA dR.length iB):=(af dm.out 1).trans rfl;have uM:SX.cell? ⟨fu,2,none⟩=some (.string bg):=(af dm.out 2).trans rfl;have DD:SX.cell? ⟨fu,3,none⟩=some (.string eD):=(af dm.out 3).trans rfl;have DF:SX.cell? ⟨fu,4,none⟩=some (.bool bw):=(af dm.out 4).trans rfl;have qE:=aa dm.out 0;have qF:=aa dm.out 1;have uN:=aa dm.out 2;have DG:=aa dm.out 3;have DI:=aa dm.out 4))
    go_ret2
    exact ⟨cZ,lT⟩
   ·rw [if_neg c9] at H
    have SY:(eD.toList == ([]:List UInt8))=false:=beq_eq_false_iff_ne.mpr c9
    have ad4:(eD.toList != ([]:List UInt8))=true:=bne_iff_ne.mpr c9
    replace H:=Option.bind_eq_some_iff.mp H
    obtain ⟨⟨oC,VU⟩,wS,H⟩:=H
    replace H:(if (dR.length:Int) > 0 then ((strings_Join.f dR (⟨#[44,64]⟩:ByteArray)).bind fun iO=>(if 1 + iO.size≤9223372036854775807 then (if ((⟨#[64]⟩:ByteArray) ++ iO).size + 1≤9223372036854775807 then (if (((⟨#[64]⟩:ByteArray) ++ iO) ++ (⟨#[58]⟩:ByteArray)).size + oC.size≤9223372036854775807 then (if 1 + ((((⟨#[64]⟩:ByteArray) ++ iO) ++ (⟨#[58]⟩:ByteArray)) ++ oC).size≤9223372036854775807 then (if ((⟨#[60]⟩:ByteArray) ++ ((((⟨#[64]⟩:ByteArray) ++ iO) ++ (⟨#[58]⟩:ByteArray)) ++ oC)).size + 1≤9223372036854775807 then (some (((⟨#[60]⟩:ByteArray) ++ ((((⟨#[64]⟩:ByteArray) ++ iO) ++ (⟨#[58]⟩:ByteArray)) ++ oC)) ++ (⟨#[62]⟩:ByteArray),VU)) else (none)) else (none)) else (none)) else (none)) else (none))) else (if 1 + oC.size≤9223372036854775807 then (if ((⟨#[60]⟩:ByteArray) ++ oC).size + 1≤9223372036854775807 then (some (((⟨#[60]⟩:ByteArray) ++ oC) ++ (⟨#[62]⟩:ByteArray),VU)) else (none)) else (none)))=some (r1,r2):=H
    have SZ:=ah.mk wS
    clear wS
    by_cases c15:(dR.length:Int) > 0
    ·rw [if_pos c15] at H
     have Fj:decide (0 < (dR.length:Int))=true:=decide_eq_true c15
     have Re:decide (0 < dR.length)=true:=decide_eq_true aq
     clear c15
     replace H:=Option.bind_eq_some_iff.mp H
     obtain ⟨iO,Mk,H⟩:=H
     replace H:(if 1 + iO.size≤9223372036854775807 then (if ((⟨#[64]⟩:ByteArray) ++ iO).size + 1≤9223372036854775807 then (if (((⟨#[64]⟩:ByteArray) ++ iO) ++ (⟨#[58]⟩:ByteArray)).size + oC.size≤9223372036854775807 then (if 1 + ((((⟨#[64]⟩:ByteArray) ++ iO) ++ (⟨#[58]⟩:ByteArray)) ++ oC).size≤9223372036854775807 then (if ((⟨#[60]⟩:ByteArray) ++ ((((⟨#[64]⟩:ByteArray) ++ iO) ++ (⟨#[58]⟩:ByteArray)) ++ oC)).size + 1≤9223372036854775807 then (some (((⟨#[60]⟩:ByteArray) ++ ((((⟨#[64]⟩:ByteArray) ++ iO) ++ (⟨#[58]⟩:ByteArray)) ++ oC)) ++ (⟨#[62]⟩:ByteArray),VU)) else (none)) else (none)) else (none)) else (none)) else (none))=some (r1,r2):=H
     have A16:=ah.mk Mk
     clear Mk
     by_cases c17: 1 + iO.size≤9223372036854775807
     ·rw [if_pos c17] at H
      have Rf:=eq_true c17
      have apW:decide (1 + iO.size≤9223372036854775807)=true:=decide_eq_true c17
      try have apX:(9223372036854775807 < 1 + iO.size)=False:=eq_false (Nat.not_lt.2 c17)
      by_cases c18:((⟨#[64]⟩:ByteArray) ++ iO).size + 1≤9223372036854775807
      ·rw [if_pos c18] at H
       have afp:=eq_true c18
       have apY:decide (((⟨#[64]⟩:ByteArray) ++ iO).size + 1≤9223372036854775807)=true:=decide_eq_true c18
       try have afq:(9223372036854775807 < ((⟨#[64]⟩:ByteArray) ++ iO).size + 1)=False:=eq_false (Nat.not_lt.2 c18)
       try (have aa1:=afq;simp only [ByteArray.size_append] at aa1)
       try have apZ:(9223372036854775807 < (1 + iO.size) + 1)=False:=aa1
       by_cases c19:(((⟨#[64]⟩:ByteArray) ++ iO) ++ (⟨#[58]⟩:ByteArray)).size + oC.size≤9223372036854775807
       ·rw [if_pos c19] at H
        have RX:=eq_true c19
        have VE:decide ((((⟨#[64]⟩:ByteArray) ++ iO) ++ (⟨#[58]⟩:ByteArray)).size + oC.size≤9223372036854775807)=true:=decide_eq_true c19
        try have afr:(9223372036854775807 < (((⟨#[64]⟩:ByteArray) ++ iO) ++ (⟨#[58]⟩:ByteArray)).size + oC.size)=False:=eq_false (Nat.not_lt.2 c19)
        try (have aa2:=afr;simp only [ByteArray.size_append] at aa2)
        try have ap0:(9223372036854775807 < (1 + iO.size + 1) + oC.size)=False:=aa2
        by_cases c20: 1 + ((((⟨#[64]⟩:ByteArray) ++ iO) ++ (⟨#[58]⟩:ByteArray)) ++ oC).size≤9223372036854775807
        ·rw [if_pos c20] at H
         have GV:=eq_true c20
         have afs:decide (1 + ((((⟨#[64]⟩:ByteArray) ++ iO) ++ (⟨#[58]⟩:ByteArray)) ++ oC).size≤9223372036854775807)=true:=decide_eq_true c20
         try have aa3:(9223372036854775807 < 1 + ((((⟨#[64]⟩:ByteArray) ++ iO) ++ (⟨#[58]⟩:ByteArray)) ++ oC).size)=False:=eq_false (Nat.not_lt.2 c20)
         try (have aa4:=aa3;simp only [ByteArray.size_append] at aa4)
         try have ap1:(9223372036854775807 < 1 + (1 + iO.size + 1 + oC.size))=False:=aa4
         by_cases c21:((⟨#[60]⟩:ByteArray) ++ ((((⟨#[64]⟩:ByteArray) ++ iO) ++ (⟨#[58]⟩:ByteArray)) ++ oC)).size + 1≤9223372036854775807
         ·rw [if_pos c21] at H
          have Qm:=eq_true c21
          have VV:decide (((⟨#[60]⟩:ByteArray) ++ ((((⟨#[64]⟩:ByteArray) ++ iO) ++ (⟨#[58]⟩:ByteArray)) ++ oC)).size + 1≤9223372036854775807)=true:=decide_eq_true c21
          try have Sc:(9223372036854775807 < ((⟨#[60]⟩:ByteArray) ++ ((((⟨#[64]⟩:ByteArray) ++ iO) ++ (⟨#[58]⟩:ByteArray)) ++ oC)).size + 1)=False:=eq_false (Nat.not_lt.2 c21)
          try (have ME:=Sc;simp only [ByteArray.size_append] at ME)
          try have aft:(9223372036854775807 < (1 + (1 + iO.size + 1 + oC.size)) + 1)=False:=ME
          simp only [Option.some.injEq,Prod.mk.injEq] at H
          obtain ⟨rfl,rfl⟩:=H
          go_enter Tryz.func21,Tryz.ntmps21
          go_wp2_with (first|((with_reducible refine cG (N:=1) rfl ?_);refine cj ?hg (N:=1) ?hd (cs:=#[.bool false,.slice iA dR.length iB,.string bg,.string eD,.bool bw]) (t:=32) ?hr ?_;(case hd=>rfl);(case hg=>rfl);(case hr=>first|(go_simp;done)|(go_simp;rfl));intro fu hg Gf cJ hb;have bD:=ah.mk (ay cw hb);have bN:=ah.mk (cJ);have cz:=ah.mk ((dK:w.heap.size≤fu));have cY:=ah.mk ((dK:w.heap.size≤fu));clear HB;have HB:=bD;have dm:=bN;have Sb:=cz;have Ld:=cY;clear bD bN cz cY;clear hb cJ hg;have AV:Gf.cell? ⟨fu,0,none⟩=some (.bool false):=(af dm.out 0).trans rfl;have AW:Gf.cell? ⟨fu,1,none⟩=some (.slice iA dR.length iB):=(af dm.out 1).trans rfl;have AX:Gf.cell? ⟨fu,2,none⟩=some (.string bg):=(af dm.out 2).trans rfl;have KD:Gf.cell? ⟨fu,3,none⟩=some (.string eD):=(af dm.out 3).trans rfl;have KE:Gf.cell? ⟨fu,4,none⟩=some (.bool bw):=(af dm.out 4).trans rfl;have AY:=aa dm.out 0;have AZ:=aa dm.out 1;have Ba:=aa dm.out 2;have KF:=aa dm.out 3;have KG:=aa dm.out 4)|((with_reducible refine aN (f:=20) rfl ?_);refine cr (some 8) rfl rfl Tryz.func20 au rfl #[.agg #[.bool false,.slice iA dR.length iB,.string bg,.string eD,.bool bw]] rfl cV ?_;(with_reducible refine (fI.calls k false _ _ dR bg eD bw true _ ?aX ?bS ?dH A2.out).mono ?_);(case aX=>repeat (first|exact (Kd.cI wT.out HB.out)|(with_reducible refine Kd.cK ?_ _)|(with_reducible refine Kd.cL ?_ _)|(with_reducible refine Kd.dG ?_)));(case bS=>exact zY.out);(case dH=>exact aT.below HG.out lT);rintro e KB ⟨rfl,hb⟩;refine ⟨_,rfl,?_⟩;have bD:=ah.mk (aJ (g:=fu) (o:= .cells #[.bool false,.slice iA dR.length iB,.string bg,.string eD,.bool bw] 32 (0,0)) wK hb);have bN:=ah.mk (ay lT hb);clear dm;clear HB;have dm:=bD;have HB:=bN;clear bD bN;(try clear hb);(try clear hb2);(try clear hk);(try clear hi);have tD:KB.cell? ⟨fu,0,none⟩=some (.bool false):=(af dm.out 0).trans rfl;have tE:KB.cell? ⟨fu,1,none⟩=some (.slice iA dR.length iB):=(af dm.out 1).trans rfl;have tF:KB.cell? ⟨fu,2,none⟩=some (.string bg):=(af dm.out 2).trans rfl;have yz:KB.cell? ⟨fu,3,none⟩=some (.string eD):=(af dm.out 3).trans rfl;have yA:KB.cell? ⟨fu,4,none⟩=some (.bool bw):=(af dm.out 4).trans rfl;have tG:=aa dm.out 0;have tH:=aa dm.out 1;have tI:=aa dm.out 2;have yB:=aa dm.out 3;have yC:=aa dm.out 4)|((with_reducible refine aN (f:=22) rfl ?_);refine cr (some 21) rfl rfl Tryz.func22 au rfl #[.agg #[.string bg,.string eD,.bool bw]] rfl cV ?_;(with_reducible refine (iC.calls k bg eD bw oC VU _ ?aX SZ.out).mono ?_);(case aX=>exact aT.below HG.out lT);rintro e zG ⟨rfl,hb⟩;refine ⟨_,rfl,?_⟩;have bD:=ah.mk (aJ (g:=fu) (o:= .cells #[.bool false,.slice iA dR.length iB,.string bg,.string eD,.bool bw] 32 (0,0)) wK hb);have bN:=ah.mk (ay lT hb);clear dm;clear HB;have dm:=bD;have HB:=bN;clear bD bN;(try clear hb);(try clear hb2);(try clear hk);(try clear hi);have Qs:zG.cell? ⟨fu,0,none⟩=some (.bool false):=(af dm.out 0).trans rfl;have Qt:zG.cell? ⟨fu,1,none⟩=some (.slice iA dR.length iB):=(af dm.out 1).trans rfl;have Xm:zG.cell? ⟨fu,2,none⟩=some (.string bg):=(af dm.out 2).trans rfl;have Xn:zG.cell? ⟨fu,3,none⟩=some (.string eD):=(af dm.out 3).trans rfl;have Xo:zG.cell? ⟨fu,4,none⟩=some (.bool bw):=(af dm.out 4).trans rfl;have Qu:=aa dm.out 0;have Qv:=aa dm.out 1;have Xp:=aa dm.out 2;have Xq:=aa dm.out 3;have Xr:=aa dm.out 4)|((with_reducible refine aN (f:=66) rfl ?_);refine cr (some 30) rfl rfl Tryz.func66 au rfl #[.slice iA dR.length iB,.string (⟨#[44,64]⟩:ByteArray)] rfl cV ?_;(with_reducible refine (strings_Join.calls _ _ dR (⟨#[44,64]⟩:ByteArray) iO _ ?aX ?bS A16.out).mono ?_);(case aX=>repeat (first|exact (Kd.cI wT.out HB.out)|(with_reducible refine Kd.cK ?_ _)|(with_reducible refine Kd.cL ?_ _)|(with_reducible refine Kd.dG ?_)));(case bS=>exact zY.out);rintro e w28 ⟨rfl,hb⟩;refine ⟨_,rfl,?_⟩;have bD:=ah.mk (aJ (g:=fu) (o:= .cells #[.bool false,.slice iA dR.length iB,.string bg,.string eD,.bool bw] 32 (0,0)) wK hb);have bN:=ah.mk (ay lT hb);clear dm;clear HB;have dm:=bD;have HB:=bN;clear bD bN;(try clear hb);(try clear hb2);(try clear hk);(try clear hi)))
          go_ret2
          exact ⟨cZ,lT⟩
         ·rw [if_neg c21] at H
          exact absurd H bn
        ·rw [if_neg c20] at H
         exact absurd H bn
       ·rw [if_neg c19] at H
        exact absurd H bn
      ·rw [if_neg c18] at H
       exact absurd H bn
     ·rw [if_neg c17] at H
      exact absurd H bn
    ·rw [if_neg c15] at H
     have Fj:decide (0 < (dR.length:Int))=false:=decide_eq_false c15
     have Re:decide (0 < dR.length)=false:=decide_eq_false aq
     clear c15
     by_cases TV: 1 + oC.size≤9223372036854775807
     ·rw [if_pos TV] at H
      have aaH:=eq_true TV
      have ap2:decide (1 + oC.size≤9223372036854775807)=true:=decide_eq_true TV
      try have ap3:(9223372036854775807 < 1 + oC.size)=False:=eq_false (Nat.not_lt.2 TV)
      by_cases Ot:((⟨#[60]⟩:ByteArray) ++ oC).size + 1≤9223372036854775807
      ·rw [if_pos Ot] at H
       have aeg:=eq_true Ot
       have ap4:decide (((⟨#[60]⟩:ByteArray) ++ oC).size + 1≤9223372036854775807)=true:=decide_eq_true Ot
       try have afu:(9223372036854775807 < ((⟨#[60]⟩:ByteArray) ++ oC).size + 1)=False:=eq_false (Nat.not_lt.2 Ot)
       try (have aa5:=afu;simp only [ByteArray.size_append] at aa5)
       try have ap5:(9223372036854775807 < (1 + oC.size) + 1)=False:=aa5
       simp only [Option.some.injEq,Prod.mk.injEq] at H
       obtain ⟨rfl,rfl⟩:=H
       go_enter Tryz.func21,Tryz.ntmps21
       go_wp2_with (first|((with_reducible refine cG (N:=1) rfl ?_);refine cj ?hg (N:=1) ?hd (cs:=#[.bool false,.slice iA dR.length iB,.string bg,.string eD,.bool bw]) (t:=32) ?hr ?_;(case hd=>rfl);(case hg=>rfl);(case hr=>first|(go_simp;done)|(go_simp;rfl));intro fu hg NB cJ hb;have bD:=ah.mk (ay cw hb);have bN:=ah.mk (cJ);have cz:=ah.mk ((dK:w.heap.size≤fu));have cY:=ah.mk ((dK:w.heap.size≤fu));clear HB;have HB:=bD;have dm:=bN;have Sb:=cz;have Ld:=cY;clear bD bN cz cY;clear hb cJ hg;have Y1:NB.cell? ⟨fu,0,none⟩=some (.bool false):=(af dm.out 0).trans rfl;have Y2:NB.cell? ⟨fu,1,none⟩=some (.slice iA dR.length iB):=(af dm.out 1).trans rfl;have Y3:NB.cell? ⟨fu,2,none⟩=some (.string bg):=(af dm.out 2).trans rfl;have Y4:NB.cell? ⟨fu,3,none⟩=some (.string eD):=(af dm.out 3).trans rfl;have Y5:NB.cell? ⟨fu,4,none⟩=some (.bool bw):=(af dm.out 4).trans rfl;have Y6:=aa dm.out 0;have Y7:=aa dm.out 1;have Y8:=aa dm.out 2;have Y9:=aa dm.out 3;have Za:=aa dm.out 4)|((with_reducible refine aN (f:=20) rfl ?_);refine cr (some 8) rfl rfl Tryz.func20 au rfl #[.agg #[.bool false,.slice iA dR.length iB,.string bg,.string eD,.bool bw]] rfl cV ?_;(with_reducible refine (fI.calls k false _ _ dR bg eD bw true _ ?aX ?bS ?dH A2.out).mono ?_);(case aX=>repeat (first|exact (Kd.cI wT.out HB.out)|(with_reducible refine Kd.cK ?_ _)|(with_reducible refine Kd.cL ?_ _)|(with_reducible refine Kd.dG ?_)));(case bS=>exact zY.out);(case dH=>exact aT.below HG.out lT);rintro e Es ⟨rfl,hb⟩;refine ⟨_,rfl,?_⟩;have bD:=ah.mk (aJ (g:=fu) (o:= .cells #[.bool false,.slice iA dR.length iB,.string bg,.string eD,.bool bw] 32 (0,0)) wK hb);have bN:=ah.mk (ay lT hb);clear dm;clear HB;have dm:=bD;have HB:=bN;clear bD bN;(try clear hb);(try clear hb2);(try clear hk);(try clear hi);have Eu:Es.cell? ⟨fu,0,none⟩=some (.bool false):=(af dm.out 0).trans rfl;have Ew:Es.cell? ⟨fu,1,none⟩=some (.slice iA dR.length iB):=(af dm.out 1).trans rfl;have Ex:Es.cell? ⟨fu,2,none⟩=some (.string bg):=(af dm.out 2).trans rfl;have Sd:Es.cell? ⟨fu,3,none⟩=some (.string eD):=(af dm.out 3).trans rfl;have Sg:Es.cell? ⟨fu,4,none⟩=some (.bool bw):=(af dm.out 4).trans rfl;have Ey:=aa dm.out 0;have Ez:=aa dm.out 1;have EA:=aa dm.out 2;have Sh:=aa dm.out 3;have Si:=aa dm.out 4)|((with_reducible refine aN (f:=22) rfl ?_);refine cr (some 21) rfl rfl Tryz.func22 au rfl #[.agg #[.string bg,.string eD,.bool bw]] rfl cV ?_;(with_reducible refine (iC.calls k bg eD bw oC VU _ ?aX SZ.out).mono ?_);(case aX=>exact aT.below HG.out lT);rintro e OY ⟨rfl,hb⟩;refine ⟨_,rfl,?_⟩;have bD:=ah.mk (aJ (g:=fu) (o:= .cells #[.bool false,.slice iA dR.length iB,.string bg,.string eD,.bool bw] 32 (0,0)) wK hb);have bN:=ah.mk (ay lT hb);clear dm;clear HB;have dm:=bD;have HB:=bN;clear bD bN;(try clear hb);(try clear hb2);(try clear hk);(try clear hi);have AA:OY.cell? ⟨fu,0,none⟩=some (.bool false):=(af dm.out 0).trans rfl;have AB:OY.cell? ⟨fu,1,none⟩=some (.slice iA dR.length iB):=(af dm.out 1).trans rfl;have AE:OY.cell? ⟨fu,2,none⟩=some (.string bg):=(af dm.out 2).trans rfl;have Q7:OY.cell? ⟨fu,3,none⟩=some (.string eD):=(af dm.out 3).trans rfl;have Q8:OY.cell? ⟨fu,4,none⟩=some (.bool bw):=(af dm.out 4).trans rfl;have AG:=aa dm.out 0;have AH:=aa dm.out 1;have AJ:=aa dm.out 2;have Q9:=aa dm.out 3;have Ra:=aa dm.out 4))
       go_ret2
       exact ⟨cZ,lT⟩
      ·rw [if_neg Ot] at H
       exact absurd H bn
     ·rw [if_neg TV] at H
      exact absurd H bn
 ·replace c3:=Bool.eq_false_iff.mpr c3
  subst c3
  have H1:(some ((⟨#[]⟩:ByteArray),150))=some (r1,r2):=by rw [if_neg (show ¬ (false=true) by decide)] at H;exact H
  clear H
  have H:=H1
  clear H1
  simp only [Option.some.injEq,Prod.mk.injEq] at H
  obtain ⟨rfl,rfl⟩:=H
  go_enter Tryz.func21,Tryz.ntmps21
  go_wp2_with (first|((with_reducible refine cG (N:=1) rfl ?_);refine cj ?hg (N:=1) ?hd (cs:=#[.bool aK,.slice iA dR.length iB,.string bg,.string eD,.bool bw]) (t:=32) ?hr ?_;(case hd=>rfl);(case hg=>rfl);(case hr=>first|(go_simp;done)|(go_simp;rfl));intro fu hg Fx cJ hb;have bD:=ah.mk (ay cw hb);have bN:=ah.mk (cJ);have cz:=ah.mk ((dK:w.heap.size≤fu));have cY:=ah.mk ((dK:w.heap.size≤fu));clear HB;have HB:=bD;have dm:=bN;have Sb:=cz;have Ld:=cY;clear bD bN cz cY;clear hb cJ hg;have XF:Fx.cell? ⟨fu,0,none⟩=some (.bool aK):=(af dm.out 0).trans rfl;have XG:Fx.cell? ⟨fu,1,none⟩=some (.slice iA dR.length iB):=(af dm.out 1).trans rfl;have XH:Fx.cell? ⟨fu,2,none⟩=some (.string bg):=(af dm.out 2).trans rfl;have XI:Fx.cell? ⟨fu,3,none⟩=some (.string eD):=(af dm.out 3).trans rfl;have XJ:Fx.cell? ⟨fu,4,none⟩=some (.bool bw):=(af dm.out 4).trans rfl;have XK:=aa dm.out 0;have XL:=aa dm.out 1;have XM:=aa dm.out 2;have XN:=aa dm.out 3;have XO:=aa dm.out 4)|((with_reducible refine aN (f:=20) rfl ?_);refine cr (some 8) rfl rfl Tryz.func20 au rfl #[.agg #[.bool aK,.slice iA dR.length iB,.string bg,.string eD,.bool bw]] rfl cV ?_;(with_reducible refine (fI.calls k aK _ _ dR bg eD bw false _ ?aX ?bS ?dH A2.out).mono ?_);(case aX=>repeat (first|exact (Kd.cI wT.out HB.out)|(with_reducible refine Kd.cK ?_ _)|(with_reducible refine Kd.cL ?_ _)|(with_reducible refine Kd.dG ?_)));(case bS=>exact zY.out);(case dH=>exact aT.below HG.out lT);rintro e Zb ⟨rfl,hb⟩;refine ⟨_,rfl,?_⟩;have bD:=ah.mk (aJ (g:=fu) (o:= .cells #[.bool aK,.slice iA dR.length iB,.string bg,.string eD,.bool bw] 32 (0,0)) wK hb);have bN:=ah.mk (ay lT hb);clear dm;clear HB;have dm:=bD;have HB:=bN;clear bD bN;(try clear hb);(try clear hb2);(try clear hk);(try clear hi)))
  go_ret2
  exact ⟨cZ,lT⟩
def ez.f (a0:Int):Option (Bool):=if a0=3 then (some true) else (some (a0 == 4))
set_option maxHeartbeats 8000000 in
set_option maxRecDepth 100000 in
theorem ez.calls (a0:Int) (r:Bool) (w:World) (h:ez.f a0=some r):
 Calls Tryz.prog 135 #[.int .u8 a0] w fun e w'=>e= .returned (.bool r)∧kg w w':=by
 have H:(if a0=3 then (some true) else (some (a0 == 4)))=some r:=h
 clear h
 by_cases c2:a0=3
 ·rw [if_pos c2] at H
  have BM:(a0 == 3)=true:=beq_iff_eq.mpr c2
  have Og:(a0 != 3)=false:=bne_eq_false_iff_eq.mpr c2
  clear c2
  obtain rfl:=Option.some.inj H
  go_enter Tryz.func135,Tryz.ntmps135
  go_wp2
  go_ret
  exact ⟨ey,kJ⟩
 ·rw [if_neg c2] at H
  have BM:(a0 == 3)=false:=beq_eq_false_iff_ne.mpr c2
  have Og:(a0 != 3)=true:=bne_iff_ne.mpr c2
  obtain rfl:=Option.some.inj H
  go_enter Tryz.func135,Tryz.ntmps135
  go_wp2
  go_ret
  exact ⟨ey,kJ⟩
mutual
def bY.j0:Nat→ByteArray→ByteArray→Int→ByteArray→Bool→List ByteArray→ByteArray→ByteArray→Bool→List (gP)→Option (ByteArray)
 | 0,_,_,_,_,_,_,_,_,_,_ =>none
 |k + 1,x3,x4,aiD,aiE,Zc,Zd,Ze,Zf,Zg,Sj=>(kX.f k Zc Zd Ze Zf Zg).bind fun VW=>(if x4.size + VW.1.size≤9223372036854775807 then (if x3.size + (x4 ++ VW.1).size≤9223372036854775807 then (bY.l0 k (x3 ++ (x4 ++ VW.1)) Sj (Sj.length:Int) 0) else (none)) else (none))
def bY.l0:Nat→ByteArray→List (gP)→Int→Int→Option (ByteArray)
 | 0,_,_,_,_ =>none
 |k + 1,x3,T7,x41,Sk=>if Sk < x41 then (if 0≤Sk then (if Sk < (T7.length:Int) then (if 1 + ((dN T7 Sk).f0).size≤9223372036854775807 then (if x3.size + ((⟨#[32]⟩:ByteArray) ++ ((dN T7 Sk).f0)).size≤9223372036854775807 then (if (dN T7 Sk).f2=true then (if 1 + ((dN T7 Sk).f1).size≤9223372036854775807 then (if (x3 ++ ((⟨#[32]⟩:ByteArray) ++ ((dN T7 Sk).f0))).size + ((⟨#[61]⟩:ByteArray) ++ ((dN T7 Sk).f1)).size≤9223372036854775807 then (bY.l0 k ((x3 ++ ((⟨#[32]⟩:ByteArray) ++ ((dN T7 Sk).f0))) ++ ((⟨#[61]⟩:ByteArray) ++ ((dN T7 Sk).f1))) T7 x41 (wrap64 (Sk + 1))) else (none)) else (none)) else (bY.l0 k (x3 ++ ((⟨#[32]⟩:ByteArray) ++ ((dN T7 Sk).f0))) T7 x41 (wrap64 (Sk + 1)))) else (none)) else (none)) else (none)) else (none)) else (some x3)
end
def bY.f (k:Nat) (aK:Int) (bf:ByteArray) (bg:Bool) (bQ:List ByteArray) (bw:ByteArray) (bT:ByteArray) (bU:Bool) (bG:List (gP)):Option (ByteArray):=(fy.f aK).bind fun lN=>((ez.f aK).bind fun MF=>(if MF=true then (if aK=3 then (bY.j0 k lN (⟨#[32,70,82,79,77,58]⟩:ByteArray) aK bf bg bQ bw bT bU bG) else (bY.j0 k lN (⟨#[32,84,79,58]⟩:ByteArray) aK bf bg bQ bw bT bU bG)) else (if bf.toList=([]:List UInt8) then (some lN) else (if 1 + bf.size≤9223372036854775807 then (if lN.size + ((⟨#[32]⟩:ByteArray) ++ bf).size≤9223372036854775807 then (some (lN ++ ((⟨#[32]⟩:ByteArray) ++ bf))) else (none)) else (none)))))
set_option maxHeartbeats 8000000 in
set_option maxRecDepth 100000 in
theorem bY.calls (k:Nat) (aK:Int) (bf:ByteArray) (bg:Bool) (cO:Option Addr) (cP:Nat) (bQ:List ByteArray) (bw:ByteArray) (bT:ByteArray) (bU:Bool) (cS:Option Addr) (cQ:Nat) (bG:List (gP)) (r:ByteArray) (w:World) (qJ:Kd.C Kd.string w cO bQ.length bQ) (qK:bQ.length≤cP) (qM:Kd.C zF w cS bG.length bG) (qN:bG.length≤cQ) (hG:aT w) (h:bY.f k aK bf bg bQ bw bT bU bG=some r):
 Calls Tryz.prog 89 #[.agg #[.int .u8 aK,.string bf,.bool bg,.slice cO bQ.length cP,.string bw,.string bT,.bool bU,.slice cS bG.length cQ]] w fun e w'=>e= .returned (.string r)∧Below w.heap.size w w':=by
 have LP:=Tryz.underlying35
 have Oi:=Tryz.underlying32
 have U0:=Tryz.underlying58
 have iF:=ah.mk qJ
 have iG:=ah.mk qK
 clear qJ qK
 have iV:=ah.mk qM
 have jw:=ah.mk qN
 clear qM qN
 have HB:=ah.mk (Below.refl w.heap.size w)
 have HG:=ah.mk hG
 clear hG
 have H:((fy.f aK).bind fun lN=>((ez.f aK).bind fun MF=>(if MF=true then (if aK=3 then (bY.j0 k lN (⟨#[32,70,82,79,77,58]⟩:ByteArray) aK bf bg bQ bw bT bU bG) else (bY.j0 k lN (⟨#[32,84,79,58]⟩:ByteArray) aK bf bg bQ bw bT bU bG)) else (if bf.toList=([]:List UInt8) then (some lN) else (if 1 + bf.size≤9223372036854775807 then (if lN.size + ((⟨#[32]⟩:ByteArray) ++ bf).size≤9223372036854775807 then (some (lN ++ ((⟨#[32]⟩:ByteArray) ++ bf))) else (none)) else (none))))))=some r:=h
 clear h
 replace H:=Option.bind_eq_some_iff.mp H
 obtain ⟨lN,nK,H⟩:=H
 replace H:((ez.f aK).bind fun MF=>(if MF=true then (if aK=3 then (bY.j0 k lN (⟨#[32,70,82,79,77,58]⟩:ByteArray) aK bf bg bQ bw bT bU bG) else (bY.j0 k lN (⟨#[32,84,79,58]⟩:ByteArray) aK bf bg bQ bw bT bU bG)) else (if bf.toList=([]:List UInt8) then (some lN) else (if 1 + bf.size≤9223372036854775807 then (if lN.size + ((⟨#[32]⟩:ByteArray) ++ bf).size≤9223372036854775807 then (some (lN ++ ((⟨#[32]⟩:ByteArray) ++ bf))) else (none)) else (none)))))=some r:=H
 have A2:=ah.mk nK
 clear nK
 replace H:=Option.bind_eq_some_iff.mp H
 obtain ⟨MF,wQ,H⟩:=H
 replace H:(if MF=true then (if aK=3 then (bY.j0 k lN (⟨#[32,70,82,79,77,58]⟩:ByteArray) aK bf bg bQ bw bT bU bG) else (bY.j0 k lN (⟨#[32,84,79,58]⟩:ByteArray) aK bf bg bQ bw bT bU bG)) else (if bf.toList=([]:List UInt8) then (some lN) else (if 1 + bf.size≤9223372036854775807 then (if lN.size + ((⟨#[32]⟩:ByteArray) ++ bf).size≤9223372036854775807 then (some (lN ++ ((⟨#[32]⟩:ByteArray) ++ bf))) else (none)) else (none))))=some r:=H
 have A3:=ah.mk wQ
 clear wQ
 by_cases c4:MF=true
 ·subst c4
  have H1:(if aK=3 then (bY.j0 k lN (⟨#[32,70,82,79,77,58]⟩:ByteArray) aK bf bg bQ bw bT bU bG) else (bY.j0 k lN (⟨#[32,84,79,58]⟩:ByteArray) aK bf bg bQ bw bT bU bG))=some r:=by rw [if_pos rfl] at H;exact H
  clear H
  have H:=H1
  clear H1
  have HC5:=ah.mk H
  clear H
  go_enter Tryz.func89,Tryz.ntmps89
  go_upto_if 27 with (first|((with_reducible refine cG (N:=1) rfl ?_);refine cj ?hg (N:=1) ?hd (cs:=#[.int .u8 aK,.string bf,.bool bg,.slice cO bQ.length cP,.string bw,.string bT,.bool bU,.slice cS bG.length cQ]) (t:=35) ?hr ?_;(case hd=>rfl);(case hg=>rfl);(case hr=>first|(go_simp;done)|(go_simp;rfl));intro eN hg w6 cJ hb;have bD:=ah.mk (ay cw hb);have bN:=ah.mk (cJ);have cz:=ah.mk ((dK:w.heap.size≤eN));have cY:=ah.mk ((dK:w.heap.size≤eN));clear HB;have HB:=bD;have cM:=bN;have aa6:=cz;have Le:=cY;clear bD bN cz cY;clear hb cJ hg;have Fe:w6.cell? ⟨eN,0,none⟩=some (.int .u8 aK):=(af cM.out 0).trans rfl;have Ff:w6.cell? ⟨eN,1,none⟩=some (.string bf):=(af cM.out 1).trans rfl;have OM:w6.cell? ⟨eN,2,none⟩=some (.bool bg):=(af cM.out 2).trans rfl;have OO:w6.cell? ⟨eN,3,none⟩=some (.slice cO bQ.length cP):=(af cM.out 3).trans rfl;have OP:w6.cell? ⟨eN,4,none⟩=some (.string bw):=(af cM.out 4).trans rfl;have VX:w6.cell? ⟨eN,5,none⟩=some (.string bT):=(af cM.out 5).trans rfl;have VY:w6.cell? ⟨eN,6,none⟩=some (.bool bU):=(af cM.out 6).trans rfl;have VZ:w6.cell? ⟨eN,7,none⟩=some (.slice cS bG.length cQ):=(af cM.out 7).trans rfl;have Fg:=aa cM.out 0;have Fh:=aa cM.out 1;have OQ:=aa cM.out 2;have OS:=aa cM.out 3;have OT:=aa cM.out 4;have V3:=aa cM.out 5;have V4:=aa cM.out 6;have V5:=aa cM.out 7)|((with_reducible refine aN (f:=38) rfl ?_);refine cr (some 11) rfl rfl Tryz.func38 au rfl #[.int .u8 aK] rfl cV ?_;(with_reducible refine (fy.calls aK lN _ ?aX A2.out).mono ?_);(case aX=>exact aT.below HG.out nT);rintro e w8 ⟨rfl,hb⟩;refine ⟨_,rfl,?_⟩;have bD:=ah.mk (aJ (g:=eN) (o:= .cells #[.int .u8 aK,.string bf,.bool bg,.slice cO bQ.length cP,.string bw,.string bT,.bool bU,.slice cS bG.length cQ] 35 (0,0)) uy hb);have bN:=ah.mk (ay nT hb);clear cM;clear HB;have cM:=bD;have HB:=bN;clear bD bN;(try clear hb);(try clear hb2);(try clear hk);(try clear hi);have qp:w8.cell? ⟨eN,0,none⟩=some (.int .u8 aK):=(af cM.out 0).trans rfl;have qq:w8.cell? ⟨eN,1,none⟩=some (.string bf):=(af cM.out 1).trans rfl;have wY:w8.cell? ⟨eN,2,none⟩=some (.bool bg):=(af cM.out 2).trans rfl;have zm:w8.cell? ⟨eN,3,none⟩=some (.slice cO bQ.length cP):=(af cM.out 3).trans rfl;have zn:w8.cell? ⟨eN,4,none⟩=some (.string bw):=(af cM.out 4).trans rfl;have KM:w8.cell? ⟨eN,5,none⟩=some (.string bT):=(af cM.out 5).trans rfl;have KN:w8.cell? ⟨eN,6,none⟩=some (.bool bU):=(af cM.out 6).trans rfl;have KO:w8.cell? ⟨eN,7,none⟩=some (.slice cS bG.length cQ):=(af cM.out 7).trans rfl;have qu:=aa cM.out 0;have qw:=aa cM.out 1;have wZ:=aa cM.out 2;have zo:=aa cM.out 3;have zq:=aa cM.out 4;have KP:=aa cM.out 5;have KQ:=aa cM.out 6;have KR:=aa cM.out 7)|((with_reducible refine aN (f:=135) rfl ?_);refine cr (some 14) rfl rfl Tryz.func135 au rfl #[.int .u8 aK] rfl cV ?_;(with_reducible refine (ez.calls aK true _ A3.out).mono ?_);rintro e w' ⟨rfl,⟨nd,rfl⟩⟩;refine ⟨_,rfl,?_⟩))
  (try simp only [Act.put,List.setIfInBounds_toArray,List.set_cons_zero,List.set_cons_succ])
  go_cut [4] (fun v4 wc=>∃ (kq:Nat) (Bh:ByteArray),v4= .string Bh∧ah (bY.j0 kq lN Bh aK bf bg bQ bw bT bU bG=some r)∧ah (kq≤k)∧ah (wc.heap[eN]? =some (.cells #[.int .u8 aK,.string bf,.bool bg,(.slice cO bQ.length cP),.string bw,.string bT,.bool bU,(.slice cS bG.length cQ)] 35 (0,0)))∧ah (Below w.heap.size w wc))
  case first=>
   have H:=HC5.out
   clear HC5
   by_cases c10:aK=3
   ·rw [if_pos c10] at H
    have pO:(aK == 3)=true:=beq_iff_eq.mpr c10
    have yZ:(aK != 3)=false:=bne_eq_false_iff_eq.mpr c10
    clear c10
    (first|rw [pO]|(simp only [dB,dD];rw [pO])|skip)
    have H':=ah.mk H
    clear H
    go_wp2
    go_meet
    case rel=>exact ⟨_,((⟨#[32,70,82,79,77,58]⟩:ByteArray)),ey,H',⟨nU⟩,⟨uy⟩,⟨nT⟩⟩
   ·rw [if_neg c10] at H
    have pO:(aK == 3)=false:=beq_eq_false_iff_ne.mpr c10
    have yZ:(aK != 3)=true:=bne_iff_ne.mpr c10
    (first|rw [pO]|(simp only [dB,dD];rw [pO])|skip)
    have H':=ah.mk H
    clear H
    go_wp2
    go_meet
    case rel=>exact ⟨_,((⟨#[32,84,79,58]⟩:ByteArray)),ey,H',⟨nU⟩,⟨uy⟩,⟨nT⟩⟩
  case rest=>
   clear HC5
   try clear c1
   try clear p2
   try clear c3
   try clear c4
   try clear c8
   try clear c10
   try clear pO
   try clear yZ
   try clear Fe
   try clear Ff
   try clear OM
   try clear OO
   try clear OP
   try clear VX
   try clear VY
   try clear VZ
   try clear qp
   try clear qq
   try clear wY
   try clear zm
   try clear zn
   try clear KM
   try clear KN
   try clear KO
   try clear Fg
   try clear Fh
   try clear OQ
   try clear OS
   try clear OT
   try clear V3
   try clear V4
   try clear V5
   try clear qu
   try clear qw
   try clear wZ
   try clear zo
   try clear zq
   try clear KP
   try clear KQ
   try clear KR
   obtain ⟨kq,Bh,rfl,HA,HJ4,cM,HB⟩:=hcut
   cases kq with
   |zero=>exact absurd HA.out (by simp [bY.j0])
   |succ kj4=>
    have H:=HA.out
    clear HA
    simp only [bY.j0] at H
    replace H:=Option.bind_eq_some_iff.mp H
    obtain ⟨⟨Dm,anP⟩,Mt,H⟩:=H
    replace H:(if Bh.size + Dm.size≤9223372036854775807 then (if lN.size + (Bh ++ Dm).size≤9223372036854775807 then (bY.l0 kj4 (lN ++ (Bh ++ Dm)) bG (bG.length:Int) 0) else (none)) else (none))=some r:=H
    have A11:=ah.mk Mt
    clear Mt
    by_cases c12:Bh.size + Dm.size≤9223372036854775807
    ·rw [if_pos c12] at H
     have Ct:=eq_true c12
     have LH:decide (Bh.size + Dm.size≤9223372036854775807)=true:=decide_eq_true c12
     try have afv:(9223372036854775807 < Bh.size + Dm.size)=False:=eq_false (Nat.not_lt.2 c12)
     by_cases c13:lN.size + (Bh ++ Dm).size≤9223372036854775807
     ·rw [if_pos c13] at H
      have E6:=eq_true c13
      have LF:decide (lN.size + (Bh ++ Dm).size≤9223372036854775807)=true:=decide_eq_true c13
      try have aa7:(9223372036854775807 < lN.size + (Bh ++ Dm).size)=False:=eq_false (Nat.not_lt.2 c13)
      try (have aa8:=aa7;simp only [ByteArray.size_append] at aa8)
      try have ap6:(9223372036854775807 < lN.size + (Bh.size + Dm.size))=False:=aa8
      have H':=ah.mk H
      clear H
      have td:wc.cell? ⟨eN,0,none⟩=some (.int .u8 aK):=(af cM.out 0).trans rfl
      have tj:wc.cell? ⟨eN,1,none⟩=some (.string bf):=(af cM.out 1).trans rfl
      have u7:wc.cell? ⟨eN,2,none⟩=some (.bool bg):=(af cM.out 2).trans rfl
      have u9:wc.cell? ⟨eN,3,none⟩=some (.slice cO bQ.length cP):=(af cM.out 3).trans rfl
      have vk:wc.cell? ⟨eN,4,none⟩=some (.string bw):=(af cM.out 4).trans rfl
      have vo:wc.cell? ⟨eN,5,none⟩=some (.string bT):=(af cM.out 5).trans rfl
      have vq:wc.cell? ⟨eN,6,none⟩=some (.bool bU):=(af cM.out 6).trans rfl
      have vv:wc.cell? ⟨eN,7,none⟩=some (.slice cS bG.length cQ):=(af cM.out 7).trans rfl
      have tq:=aa cM.out 0
      have tu:=aa cM.out 1
      have vw:=aa cM.out 2
      have vA:=aa cM.out 3
      have vB:=aa cM.out 4
      have vC:=aa cM.out 5
      have vD:=aa cM.out 6
      have vE:=aa cM.out 7
      go_wp2_with (first|((with_reducible refine aN (f:=21) rfl ?_);refine cr (some 31) rfl rfl Tryz.func21 au rfl #[.agg #[.bool bg,.slice cO bQ.length cP,.string bw,.string bT,.bool bU]] rfl cV ?_;(with_reducible refine (kX.calls kj4 bg _ _ bQ bw bT bU Dm anP _ ?aX ?bS ?dH A11.out).mono ?_);(case aX=>repeat (first|exact (Kd.cI iF.out HB.out)|(with_reducible refine Kd.cK ?_ _)|(with_reducible refine Kd.cL ?_ _)|(with_reducible refine Kd.dG ?_)));(case bS=>exact iG.out);(case dH=>exact aT.below HG.out nT);rintro e zV ⟨rfl,hb⟩;refine ⟨_,rfl,?_⟩;have bD:=ah.mk (aJ (g:=eN) (o:= .cells #[.int .u8 aK,.string bf,.bool bg,.slice cO bQ.length cP,.string bw,.string bT,.bool bU,.slice cS bG.length cQ] 35 (0,0)) uy hb);have bN:=ah.mk (ay nT hb);clear cM;clear HB;have cM:=bD;have HB:=bN;clear bD bN;(try clear hb);(try clear hb2);(try clear hk);(try clear hi);have ni:zV.cell? ⟨eN,0,none⟩=some (.int .u8 aK):=(af cM.out 0).trans rfl;have nj:zV.cell? ⟨eN,1,none⟩=some (.string bf):=(af cM.out 1).trans rfl;have pP:zV.cell? ⟨eN,2,none⟩=some (.bool bg):=(af cM.out 2).trans rfl;have rI:zV.cell? ⟨eN,3,none⟩=some (.slice cO bQ.length cP):=(af cM.out 3).trans rfl;have rJ:zV.cell? ⟨eN,4,none⟩=some (.string bw):=(af cM.out 4).trans rfl;have KS:zV.cell? ⟨eN,5,none⟩=some (.string bT):=(af cM.out 5).trans rfl;have KU:zV.cell? ⟨eN,6,none⟩=some (.bool bU):=(af cM.out 6).trans rfl;have KV:zV.cell? ⟨eN,7,none⟩=some (.slice cS bG.length cQ):=(af cM.out 7).trans rfl;have nk:=aa cM.out 0;have nr:=aa cM.out 1;have pQ:=aa cM.out 2;have rK:=aa cM.out 3;have rL:=aa cM.out 4;have KW:=aa cM.out 5;have KX:=aa cM.out 6;have KY:=aa cM.out 7))
      go_loopg [3,42] kj4 (fun kq v3 v42 w'=>∃ (vT:ByteArray) (gz:Int),v3= .string vT∧v42= .int .i64 gz∧ah (bY.l0 kq vT bG (bG.length:Int) gz=some r)∧ah (kq≤kj4)∧ah (w'.heap[eN]? =some (.cells #[.int .u8 aK,.string bf,.bool bg,(.slice cO bQ.length cP),.string bw,.string bT,.bool bU,(.slice cS bG.length cQ)] 35 (0,0)))∧ah (Below w.heap.size w w'))
      case atStart=>exact ⟨(lN ++ (Bh ++ Dm)),(0),ey,ey,H',⟨Nat.le_refl _⟩,⟨uy⟩,⟨nT⟩⟩
      case round=>
       clear H'
       try clear c1
       try clear c2
       try clear p2
       try clear c3
       try clear c4
       try clear c8
       try clear c10
       try clear pO
       try clear yZ
       try clear c12
       try clear Ct
       try clear LH
       try clear afv
       try clear c13
       try clear E6
       try clear LF
       try clear aa7
       try clear td
       try clear tj
       try clear u7
       try clear u9
       try clear vk
       try clear vo
       try clear vq
       try clear vv
       try clear ni
       try clear nj
       try clear pP
       try clear rI
       try clear rJ
       try clear KS
       try clear KU
       try clear KV
       try clear Fe
       try clear Ff
       try clear OM
       try clear OO
       try clear OP
       try clear VX
       try clear VY
       try clear VZ
       try clear qp
       try clear qq
       try clear wY
       try clear zm
       try clear zn
       try clear KM
       try clear KN
       try clear KO
       try clear tq
       try clear tu
       try clear vw
       try clear vA
       try clear vB
       try clear vC
       try clear vD
       try clear vE
       try clear nk
       try clear nr
       try clear pQ
       try clear rK
       try clear rL
       try clear KW
       try clear KX
       try clear KY
       try clear Fg
       try clear Fh
       try clear OQ
       try clear OS
       try clear OT
       try clear V3
       try clear V4
       try clear V5
       try clear qu
       try clear qw
       try clear wZ
       try clear zo
       try clear zq
       try clear KP
       try clear KQ
       try clear KR
       try clear p2
       obtain ⟨vT,gz,rfl,rfl,HA,Ob,cM,HB⟩:=hrel
       cases gk with
       |zero=>exact absurd HA.out (by simp [bY.l0])
       |succ k2=>
        have H:=HA.out
        clear HA
        simp only [bY.l0] at H
        by_cases c17:gz < (bG.length:Int)
        ·rw [if_pos c17] at H
         have Rf:decide (gz < (bG.length:Int))=true:=decide_eq_true c17
         clear c17
         by_cases c18: 0≤gz
         ·rw [if_pos c18] at H
          have afp:decide (0≤gz)=true:=decide_eq_true c18
          clear c18
          by_cases c19:gz < (bG.length:Int)
          ·rw [if_pos c19] at H
           have RX:decide (gz < (bG.length:Int))=true:=decide_eq_true c19
           clear c19
           by_cases c20: 1 + ((dN bG gz).f0).size≤9223372036854775807
           ·rw [if_pos c20] at H
            have GV:=eq_true c20
            have afs:decide (1 + ((dN bG gz).f0).size≤9223372036854775807)=true:=decide_eq_true c20
            try have aa3:(9223372036854775807 < 1 + ((dN bG gz).f0).size)=False:=eq_false (Nat.not_lt.2 c20)
            by_cases c21:vT.size + ((⟨#[32]⟩:ByteArray) ++ ((dN bG gz).f0)).size≤9223372036854775807
            ·rw [if_pos c21] at H
             have Qm:=eq_true c21
             have VV:decide (vT.size + ((⟨#[32]⟩:ByteArray) ++ ((dN bG gz).f0)).size≤9223372036854775807)=true:=decide_eq_true c21
             try have Sc:(9223372036854775807 < vT.size + ((⟨#[32]⟩:ByteArray) ++ ((dN bG gz).f0)).size)=False:=eq_false (Nat.not_lt.2 c21)
             try (have ME:=Sc;simp only [ByteArray.size_append] at ME)
             try have aft:(9223372036854775807 < vT.size + (1 + ((dN bG gz).f0).size))=False:=ME
             obtain ⟨afw,V6⟩:∃ b_:Bool,b_=((dN bG gz).f2):=⟨_,rfl⟩
             replace H:(if afw=true then (if 1 + ((dN bG gz).f1).size≤9223372036854775807 then (if (vT ++ ((⟨#[32]⟩:ByteArray) ++ ((dN bG gz).f0))).size + ((⟨#[61]⟩:ByteArray) ++ ((dN bG gz).f1)).size≤9223372036854775807 then (bY.l0 k2 ((vT ++ ((⟨#[32]⟩:ByteArray) ++ ((dN bG gz).f0))) ++ ((⟨#[61]⟩:ByteArray) ++ ((dN bG gz).f1))) bG (bG.length:Int) (wrap64 (gz + 1))) else (none)) else (none)) else (bY.l0 k2 (vT ++ ((⟨#[32]⟩:ByteArray) ++ ((dN bG gz).f0))) bG (bG.length:Int) (wrap64 (gz + 1))))=some r:=by rw [← V6] at H;exact H
             have aa9:=ah.mk V6
             clear V6
             by_cases UY:afw=true
             ·subst UY
              have H1:(if 1 + ((dN bG gz).f1).size≤9223372036854775807 then (if (vT ++ ((⟨#[32]⟩:ByteArray) ++ ((dN bG gz).f0))).size + ((⟨#[61]⟩:ByteArray) ++ ((dN bG gz).f1)).size≤9223372036854775807 then (bY.l0 k2 ((vT ++ ((⟨#[32]⟩:ByteArray) ++ ((dN bG gz).f0))) ++ ((⟨#[61]⟩:ByteArray) ++ ((dN bG gz).f1))) bG (bG.length:Int) (wrap64 (gz + 1))) else (none)) else (none))=some r:=by rw [if_pos rfl] at H;exact H
              clear H
              have H:=H1
              clear H1
              by_cases c24: 1 + ((dN bG gz).f1).size≤9223372036854775807
              ·rw [if_pos c24] at H
               have LJ:=eq_true c24
               have aaB:decide (1 + ((dN bG gz).f1).size≤9223372036854775807)=true:=decide_eq_true c24
               try have ap7:(9223372036854775807 < 1 + ((dN bG gz).f1).size)=False:=eq_false (Nat.not_lt.2 c24)
               by_cases S0:(vT ++ ((⟨#[32]⟩:ByteArray) ++ ((dN bG gz).f0))).size + ((⟨#[61]⟩:ByteArray) ++ ((dN bG gz).f1)).size≤9223372036854775807
               ·rw [if_pos S0] at H
                have VF:=eq_true S0
                have ap8:decide ((vT ++ ((⟨#[32]⟩:ByteArray) ++ ((dN bG gz).f0))).size + ((⟨#[61]⟩:ByteArray) ++ ((dN bG gz).f1)).size≤9223372036854775807)=true:=decide_eq_true S0
                try have afx:(9223372036854775807 < (vT ++ ((⟨#[32]⟩:ByteArray) ++ ((dN bG gz).f0))).size + ((⟨#[61]⟩:ByteArray) ++ ((dN bG gz).f1)).size)=False:=eq_false (Nat.not_lt.2 S0)
                try (have aba:=afx;simp only [ByteArray.size_append] at aba)
                try have ap9:(9223372036854775807 < (vT.size + (1 + ((dN bG gz).f0).size)) + (1 + ((dN bG gz).f1).size))=False:=aba
                have H':=ah.mk H
                clear H
                have OZ: 0≤(gz:Int):=of_decide_eq_true cX
                have O0:gz < (bG.length:Int):=of_decide_eq_true cX
                obtain ⟨Lp,acY,vU,vV,rN⟩:=wN iV.out gz OZ O0
                (try rw [← aa9.out] at rN)
                cases acY
                replace vU:=(HB.out.cell (World.block_lt_of_cell? w _ vU)).trans vU
                replace vV:=(HB.out.cell (World.block_lt_of_cell? w _ vV)).trans vV
                replace rN:=(HB.out.cell (World.block_lt_of_cell? w _ rN)).trans rN
                replace OZ:=eq_true OZ
                replace O0:=eq_true O0
                go_wp2_with (first|((with_reducible refine cG (N:=8) rfl ?_);refine cj ?hg (N:=8) ?hd (cs:=#[.string (⟨#[]⟩:ByteArray),.string (⟨#[]⟩:ByteArray),.bool false]) (t:=58) ?hr ?_;(case hd=>rfl);(case hg=>rfl);(case hr=>first|(go_simp;done)|(go_simp;rfl));intro sF hg zG cJ hb;have bD:=ah.mk (aJ (g:=eN) (o:= .cells #[.int .u8 aK,.string bf,.bool bg,.slice cO bQ.length cP,.string bw,.string bT,.bool bU,.slice (some Lp) bG.length cQ] 35 (0,0)) uy hb);have bN:=ah.mk (ay nT hb);have cz:=ah.mk (cJ);have cY:=ah.mk ((Ii:w.heap.size≤sF));have jv:=ah.mk ((Ii:w.heap.size≤sF));have om:=ah.mk ((PC:eN≠sF));have oZ:=ah.mk ((PD:sF≠eN));clear cM;clear HB;have cM:=bD;have HB:=bN;have ug:=cz;have afy:=cY;have aar:=jv;have rQ:=om;have BR:=oZ;clear bD bN cz cY jv om oZ;clear hb cJ hg;have aaF:=BR.out;have aaG:=rQ.out;have Al:zG.cell? ⟨sF,0,none⟩=some (.string (⟨#[]⟩:ByteArray)):=(af ug.out 0).trans rfl;have Am:zG.cell? ⟨sF,1,none⟩=some (.string (⟨#[]⟩:ByteArray)):=(af ug.out 1).trans rfl;have Ao:zG.cell? ⟨sF,2,none⟩=some (.bool false):=(af ug.out 2).trans rfl;have Ap:=aa ug.out 0;have Aq:=aa ug.out 1;have Ar:=aa ug.out 2))
                go_roundg k2
                case measure=>have:=HJ4.out;have:=Ob.out;omega
                case rel=>exact ⟨((vT ++ ((⟨#[32]⟩:ByteArray) ++ ((dN bG gz).f0))) ++ ((⟨#[61]⟩:ByteArray) ++ ((dN bG gz).f1))),(wrap64 (gz + 1)),ey,ey,H',⟨by have:=HJ4.out;have:=Ob.out;omega⟩,⟨Uw⟩,⟨PK⟩⟩
               ·rw [if_neg S0] at H
                exact absurd H bn
              ·rw [if_neg c24] at H
               exact absurd H bn
             ·replace UY:=Bool.eq_false_iff.mpr UY
              subst UY
              have H1:(bY.l0 k2 (vT ++ ((⟨#[32]⟩:ByteArray) ++ ((dN bG gz).f0))) bG (bG.length:Int) (wrap64 (gz + 1)))=some r:=by rw [if_neg (show ¬ (false=true) by decide)] at H;exact H
              clear H
              have H:=H1
              clear H1
              have H':=ah.mk H
              clear H
              have OZ: 0≤(gz:Int):=of_decide_eq_true cX
              have O0:gz < (bG.length:Int):=of_decide_eq_true cX
              obtain ⟨Lp,acY,vU,vV,rN⟩:=wN iV.out gz OZ O0
              (try rw [← aa9.out] at rN)
              cases acY
              replace vU:=(HB.out.cell (World.block_lt_of_cell? w _ vU)).trans vU
              replace vV:=(HB.out.cell (World.block_lt_of_cell? w _ vV)).trans vV
              replace rN:=(HB.out.cell (World.block_lt_of_cell? w _ rN)).trans rN
              replace OZ:=eq_true OZ
              replace O0:=eq_true O0
              go_wp2_with (first|((with_reducible refine cG (N:=8) rfl ?_);refine cj ?hg (N:=8) ?hd (cs:=#[.string (⟨#[]⟩:ByteArray),.string (⟨#[]⟩:ByteArray),.bool false]) (t:=58) ?hr ?_;(case hd=>rfl);(case hg=>rfl);(case hr=>first|(go_simp;done)|(go_simp;rfl));intro sF hg X0 cJ hb;have bD:=ah.mk (aJ (g:=eN) (o:= .cells #[.int .u8 aK,.string bf,.bool bg,.slice cO bQ.length cP,.string bw,.string bT,.bool bU,.slice (some Lp) bG.length cQ] 35 (0,0)) uy hb);have bN:=ah.mk (ay nT hb);have cz:=ah.mk (cJ);have cY:=ah.mk ((Ii:w.heap.size≤sF));have jv:=ah.mk ((Ii:w.heap.size≤sF));have om:=ah.mk ((PC:eN≠sF));have oZ:=ah.mk ((PD:sF≠eN));clear cM;clear HB;have cM:=bD;have HB:=bN;have ug:=cz;have afy:=cY;have aar:=jv;have rQ:=om;have BR:=oZ;clear bD bN cz cY jv om oZ;clear hb cJ hg;have aaM:=BR.out;have aaN:=rQ.out;have yD:X0.cell? ⟨sF,0,none⟩=some (.string (⟨#[]⟩:ByteArray)):=(af ug.out 0).trans rfl;have yE:X0.cell? ⟨sF,1,none⟩=some (.string (⟨#[]⟩:ByteArray)):=(af ug.out 1).trans rfl;have AR:X0.cell? ⟨sF,2,none⟩=some (.bool false):=(af ug.out 2).trans rfl;have yF:=aa ug.out 0;have yG:=aa ug.out 1;have AU:=aa ug.out 2))
              go_roundg k2
              case measure=>have:=HJ4.out;have:=Ob.out;omega
              case rel=>exact ⟨(vT ++ ((⟨#[32]⟩:ByteArray) ++ ((dN bG gz).f0))),(wrap64 (gz + 1)),ey,ey,H',⟨by have:=HJ4.out;have:=Ob.out;omega⟩,⟨Uw⟩,⟨PK⟩⟩
            ·rw [if_neg c21] at H
             exact absurd H bn
           ·rw [if_neg c20] at H
            exact absurd H bn
          ·rw [if_neg c19] at H
           exact absurd H bn
         ·rw [if_neg c18] at H
          exact absurd H bn
        ·rw [if_neg c17] at H
         have Rf:decide (gz < (bG.length:Int))=false:=decide_eq_false c17
         clear c17
         obtain rfl:=Option.some.inj H
         go_wp2
         go_ret
         exact ⟨cZ,nT⟩
     ·rw [if_neg c13] at H
      exact absurd H bn
    ·rw [if_neg c12] at H
     exact absurd H bn
 ·replace c4:=Bool.eq_false_iff.mpr c4
  subst c4
  have H1:(if bf.toList=([]:List UInt8) then (some lN) else (if 1 + bf.size≤9223372036854775807 then (if lN.size + ((⟨#[32]⟩:ByteArray) ++ bf).size≤9223372036854775807 then (some (lN ++ ((⟨#[32]⟩:ByteArray) ++ bf))) else (none)) else (none)))=some r:=by rw [if_neg (show ¬ (false=true) by decide)] at H;exact H
  clear H
  have H:=H1
  clear H1
  by_cases Gr:bf.toList=([]:List UInt8)
  ·rw [if_pos Gr] at H
   have LR:(bf.toList == ([]:List UInt8))=true:=beq_iff_eq.mpr Gr
   have RY:(bf.toList != ([]:List UInt8))=false:=bne_eq_false_iff_eq.mpr Gr
   clear Gr
   obtain rfl:=Option.some.inj H
   go_enter Tryz.func89,Tryz.ntmps89
   go_wp2_with (first|((with_reducible refine cG (N:=1) rfl ?_);refine cj ?hg (N:=1) ?hd (cs:=#[.int .u8 aK,.string bf,.bool bg,.slice cO bQ.length cP,.string bw,.string bT,.bool bU,.slice cS bG.length cQ]) (t:=35) ?hr ?_;(case hd=>rfl);(case hg=>rfl);(case hr=>first|(go_simp;done)|(go_simp;rfl));intro eN hg Es cJ hb;have bD:=ah.mk (ay cw hb);have bN:=ah.mk (cJ);have cz:=ah.mk ((dK:w.heap.size≤eN));have cY:=ah.mk ((dK:w.heap.size≤eN));clear HB;have HB:=bD;have cM:=bN;have aa6:=cz;have Le:=cY;clear bD bN cz cY;clear hb cJ hg;have Eu:Es.cell? ⟨eN,0,none⟩=some (.int .u8 aK):=(af cM.out 0).trans rfl;have Ew:Es.cell? ⟨eN,1,none⟩=some (.string bf):=(af cM.out 1).trans rfl;have Ex:Es.cell? ⟨eN,2,none⟩=some (.bool bg):=(af cM.out 2).trans rfl;have Sd:Es.cell? ⟨eN,3,none⟩=some (.slice cO bQ.length cP):=(af cM.out 3).trans rfl;have Sg:Es.cell? ⟨eN,4,none⟩=some (.string bw):=(af cM.out 4).trans rfl;have Zh:Es.cell? ⟨eN,5,none⟩=some (.string bT):=(af cM.out 5).trans rfl;have Zi:Es.cell? ⟨eN,6,none⟩=some (.bool bU):=(af cM.out 6).trans rfl;have Zj:Es.cell? ⟨eN,7,none⟩=some (.slice cS bG.length cQ):=(af cM.out 7).trans rfl;have Ey:=aa cM.out 0;have Ez:=aa cM.out 1;have EA:=aa cM.out 2;have Sh:=aa cM.out 3;have Si:=aa cM.out 4;have Zk:=aa cM.out 5;have Zl:=aa cM.out 6;have Zm:=aa cM.out 7)|((with_reducible refine aN (f:=38) rfl ?_);refine cr (some 11) rfl rfl Tryz.func38 au rfl #[.int .u8 aK] rfl cV ?_;(with_reducible refine (fy.calls aK lN _ ?aX A2.out).mono ?_);(case aX=>exact aT.below HG.out nT);rintro e OY ⟨rfl,hb⟩;refine ⟨_,rfl,?_⟩;have bD:=ah.mk (aJ (g:=eN) (o:= .cells #[.int .u8 aK,.string bf,.bool bg,.slice cO bQ.length cP,.string bw,.string bT,.bool bU,.slice cS bG.length cQ] 35 (0,0)) uy hb);have bN:=ah.mk (ay nT hb);clear cM;clear HB;have cM:=bD;have HB:=bN;clear bD bN;(try clear hb);(try clear hb2);(try clear hk);(try clear hi);have AA:OY.cell? ⟨eN,0,none⟩=some (.int .u8 aK):=(af cM.out 0).trans rfl;have AB:OY.cell? ⟨eN,1,none⟩=some (.string bf):=(af cM.out 1).trans rfl;have AE:OY.cell? ⟨eN,2,none⟩=some (.bool bg):=(af cM.out 2).trans rfl;have Q7:OY.cell? ⟨eN,3,none⟩=some (.slice cO bQ.length cP):=(af cM.out 3).trans rfl;have Q8:OY.cell? ⟨eN,4,none⟩=some (.string bw):=(af cM.out 4).trans rfl;have Xz:OY.cell? ⟨eN,5,none⟩=some (.string bT):=(af cM.out 5).trans rfl;have XA:OY.cell? ⟨eN,6,none⟩=some (.bool bU):=(af cM.out 6).trans rfl;have XB:OY.cell? ⟨eN,7,none⟩=some (.slice cS bG.length cQ):=(af cM.out 7).trans rfl;have AG:=aa cM.out 0;have AH:=aa cM.out 1;have AJ:=aa cM.out 2;have Q9:=aa cM.out 3;have Ra:=aa cM.out 4;have XC:=aa cM.out 5;have XD:=aa cM.out 6;have XE:=aa cM.out 7)|((with_reducible refine aN (f:=135) rfl ?_);refine cr (some 14) rfl rfl Tryz.func135 au rfl #[.int .u8 aK] rfl cV ?_;(with_reducible refine (ez.calls aK false _ A3.out).mono ?_);rintro e w' ⟨rfl,⟨nd,rfl⟩⟩;refine ⟨_,rfl,?_⟩))
   go_ret
   exact ⟨cZ,nT⟩
  ·rw [if_neg Gr] at H
   have LR:(bf.toList == ([]:List UInt8))=false:=beq_eq_false_iff_ne.mpr Gr
   have RY:(bf.toList != ([]:List UInt8))=true:=bne_iff_ne.mpr Gr
   by_cases c37: 1 + bf.size≤9223372036854775807
   ·rw [if_pos c37] at H
    have aeE:=eq_true c37
    have aeF:decide (1 + bf.size≤9223372036854775807)=true:=decide_eq_true c37
    try have aqa:(9223372036854775807 < 1 + bf.size)=False:=eq_false (Nat.not_lt.2 c37)
    by_cases T4:lN.size + ((⟨#[32]⟩:ByteArray) ++ bf).size≤9223372036854775807
    ·rw [if_pos T4] at H
     have aaT:=eq_true T4
     have aqb:decide (lN.size + ((⟨#[32]⟩:ByteArray) ++ bf).size≤9223372036854775807)=true:=decide_eq_true T4
     try have afz:(9223372036854775807 < lN.size + ((⟨#[32]⟩:ByteArray) ++ bf).size)=False:=eq_false (Nat.not_lt.2 T4)
     try (have abb:=afz;simp only [ByteArray.size_append] at abb)
     try have aqc:(9223372036854775807 < lN.size + (1 + bf.size))=False:=abb
     obtain rfl:=Option.some.inj H
     go_enter Tryz.func89,Tryz.ntmps89
     go_wp2_with (first|((with_reducible refine cG (N:=1) rfl ?_);refine cj ?hg (N:=1) ?hd (cs:=#[.int .u8 aK,.string bf,.bool bg,.slice cO bQ.length cP,.string bw,.string bT,.bool bU,.slice cS bG.length cQ]) (t:=35) ?hr ?_;(case hd=>rfl);(case hg=>rfl);(case hr=>first|(go_simp;done)|(go_simp;rfl));intro eN hg Zb cJ hb;have bD:=ah.mk (ay cw hb);have bN:=ah.mk (cJ);have cz:=ah.mk ((dK:w.heap.size≤eN));have cY:=ah.mk ((dK:w.heap.size≤eN));clear HB;have HB:=bD;have cM:=bN;have aa6:=cz;have Le:=cY;clear bD bN cz cY;clear hb cJ hg;have Rx:Zb.cell? ⟨eN,0,none⟩=some (.int .u8 aK):=(af cM.out 0).trans rfl;have Ry:Zb.cell? ⟨eN,1,none⟩=some (.string bf):=(af cM.out 1).trans rfl;have Rz:Zb.cell? ⟨eN,2,none⟩=some (.bool bg):=(af cM.out 2).trans rfl;have RA:Zb.cell? ⟨eN,3,none⟩=some (.slice cO bQ.length cP):=(af cM.out 3).trans rfl;have RB:Zb.cell? ⟨eN,4,none⟩=some (.string bw):=(af cM.out 4).trans rfl;have Zn:Zb.cell? ⟨eN,5,none⟩=some (.string bT):=(af cM.out 5).trans rfl;have Zo:Zb.cell? ⟨eN,6,none⟩=some (.bool bU):=(af cM.out 6).trans rfl;have Zp:Zb.cell? ⟨eN,7,none⟩=some (.slice cS bG.length cQ):=(af cM.out 7).trans rfl;have RD:=aa cM.out 0;have RF:=aa cM.out 1;have RG:=aa cM.out 2;have RH:=aa cM.out 3;have RI:=aa cM.out 4;have Zq:=aa cM.out 5;have Zr:=aa cM.out 6;have Zt:=aa cM.out 7)|((with_reducible refine aN (f:=38) rfl ?_);refine cr (some 11) rfl rfl Tryz.func38 au rfl #[.int .u8 aK] rfl cV ?_;(with_reducible refine (fy.calls aK lN _ ?aX A2.out).mono ?_);(case aX=>exact aT.below HG.out nT);rintro e RJ ⟨rfl,hb⟩;refine ⟨_,rfl,?_⟩;have bD:=ah.mk (aJ (g:=eN) (o:= .cells #[.int .u8 aK,.string bf,.bool bg,.slice cO bQ.length cP,.string bw,.string bT,.bool bU,.slice cS bG.length cQ] 35 (0,0)) uy hb);have bN:=ah.mk (ay nT hb);clear cM;clear HB;have cM:=bD;have HB:=bN;clear bD bN;(try clear hb);(try clear hb2);(try clear hk);(try clear hi);have RL:RJ.cell? ⟨eN,0,none⟩=some (.int .u8 aK):=(af cM.out 0).trans rfl;have RM:RJ.cell? ⟨eN,1,none⟩=some (.string bf):=(af cM.out 1).trans rfl;have RN:RJ.cell? ⟨eN,2,none⟩=some (.bool bg):=(af cM.out 2).trans rfl;have RO:RJ.cell? ⟨eN,3,none⟩=some (.slice cO bQ.length cP):=(af cM.out 3).trans rfl;have RP:RJ.cell? ⟨eN,4,none⟩=some (.string bw):=(af cM.out 4).trans rfl;have Zu:RJ.cell? ⟨eN,5,none⟩=some (.string bT):=(af cM.out 5).trans rfl;have Zv:RJ.cell? ⟨eN,6,none⟩=some (.bool bU):=(af cM.out 6).trans rfl;have Zw:RJ.cell? ⟨eN,7,none⟩=some (.slice cS bG.length cQ):=(af cM.out 7).trans rfl;have RQ:=aa cM.out 0;have RR:=aa cM.out 1;have RS:=aa cM.out 2;have RT:=aa cM.out 3;have RU:=aa cM.out 4;have Zx:=aa cM.out 5;have Zy:=aa cM.out 6;have Zz:=aa cM.out 7)|((with_reducible refine aN (f:=135) rfl ?_);refine cr (some 14) rfl rfl Tryz.func135 au rfl #[.int .u8 aK] rfl cV ?_;(with_reducible refine (ez.calls aK false _ A3.out).mono ?_);rintro e w' ⟨rfl,⟨nd,rfl⟩⟩;refine ⟨_,rfl,?_⟩))
     go_ret
     exact ⟨cZ,nT⟩
    ·rw [if_neg T4] at H
     exact absurd H bn
   ·rw [if_neg c37] at H
    exact absurd H bn
def jq.f (k:Nat) (aK:ByteArray) (bf:ByteArray) (bg:Bool):Option (Bool):=(bP.f k aK bf bg).bind fun Tg=>(some (!Tg))
set_option maxHeartbeats 8000000 in
set_option maxRecDepth 100000 in
theorem jq.calls (k:Nat) (aK:ByteArray) (bf:ByteArray) (bg:Bool) (r:Bool) (w:World) (h:jq.f k aK bf bg=some r):
 Calls Tryz.prog 137 #[.agg #[.string aK,.string bf,.bool bg]] w fun e w'=>e= .returned (.bool r)∧Below w.heap.size w w':=by
 have U0:=Tryz.underlying58
 have HB:=ah.mk (Below.refl w.heap.size w)
 have H:((bP.f k aK bf bg).bind fun Tg=>(some (!Tg)))=some r:=h
 clear h
 replace H:=Option.bind_eq_some_iff.mp H
 obtain ⟨Tg,nK,H⟩:=H
 replace H:(some (!Tg))=some r:=H
 have A2:=ah.mk nK
 clear nK
 obtain rfl:=Option.some.inj H
 go_enter Tryz.func137,Tryz.ntmps137
 go_wp2_with (first|((with_reducible refine cG (N:=1) rfl ?_);refine cj ?hg (N:=1) ?hd (cs:=#[.string aK,.string bf,.bool bg]) (t:=58) ?hr ?_;(case hd=>rfl);(case hg=>rfl);(case hr=>first|(go_simp;done)|(go_simp;rfl));intro G3 hg w3 cJ hb;have bD:=ah.mk (ay cw hb);have bN:=ah.mk (cJ);have cz:=ah.mk ((dK:w.heap.size≤G3));have cY:=ah.mk ((dK:w.heap.size≤G3));clear HB;have HB:=bD;have Bi:=bN;have aqd:=cz;have adR:=cY;clear bD bN cz cY;clear hb cJ hg;have anQ:w3.cell? ⟨G3,0,none⟩=some (.string aK):=(af Bi.out 0).trans rfl;have anR:w3.cell? ⟨G3,1,none⟩=some (.string bf):=(af Bi.out 1).trans rfl;have anS:w3.cell? ⟨G3,2,none⟩=some (.bool bg):=(af Bi.out 2).trans rfl;have anT:=aa Bi.out 0;have anU:=aa Bi.out 1;have anV:=aa Bi.out 2)|((with_reducible refine aN (f:=138) rfl ?_);refine cr (some 4) rfl rfl Tryz.func138 au rfl #[.agg #[.string aK,.string bf,.bool bg]] rfl cV ?_;(with_reducible refine (bP.calls k aK bf bg Tg _ A2.out).mono ?_);rintro e w5 ⟨rfl,hb⟩;refine ⟨_,rfl,?_⟩;have bD:=ah.mk (aJ (g:=G3) (o:= .cells #[.string aK,.string bf,.bool bg] 58 (0,0)) (by (with_reducible repeat (first|refine aM ?_ _|refine bh ?_|refine aU ?_ _));exact Bi.out) hb);have bN:=ah.mk (ay PO hb);clear Bi;clear HB;have Bi:=bD;have HB:=bN;clear bD bN;(try clear hb);(try clear hb2);(try clear hk);(try clear hi)))
 go_ret
 exact ⟨cZ,PO⟩
end Go.Proofs.YtokpnfljjjjikaaGreatDoor.nX
