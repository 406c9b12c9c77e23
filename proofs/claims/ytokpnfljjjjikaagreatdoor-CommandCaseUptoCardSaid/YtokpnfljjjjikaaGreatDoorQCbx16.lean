import Derived.Test.YtokpnfljjjjikaaGreatDoorQCbx15
import Derived.Test.YtokpnfljjjjikaaGreatDoorEBox
import Derived.Test.YtokpnfljjjjikaaGreatDoorEJoin
set_option maxHeartbeats 8000000
set_option maxRecDepth 100000
namespace Go.Proofs.YtokpnfljjjjikaaGreatDoor.n9
open Go.RowKit Go.Proofs.aj.bQ Go.Proofs.aj.gf Go.Proofs.aj.cT
attribute [local go_sem] jt iY kQ kJ iJ iK ju jv
set_option linter.unusedVariables false
set_option linter.unusedSimpArgs false
def kf.f (k:Nat) (aI:Bool) (dN:List ByteArray) (bn:ByteArray) (eF:ByteArray) (bz:Bool):Option (ByteArray×Int):=(fM.f k aI dN bn eF bz).bind fun Vb=>(if Vb=true then (if aI=true then (some ((⟨#[60,62]⟩:ByteArray),0)) else (if eF.toList=([]:List UInt8) then (some ((⟨#[60,112,111,115,116,109,97,115,116,101,114,62]⟩:ByteArray),0)) else ((iH.f k bn eF bz).bind fun iA=>(if (dN.length:Int) > 0 then ((strings_Join.f dN (⟨#[44,64]⟩:ByteArray)).bind fun iO=>(if 1 + iO.size≤9223372036854775807 then (if ((⟨#[64]⟩:ByteArray) ++ iO).size + 1≤9223372036854775807 then (if (((⟨#[64]⟩:ByteArray) ++ iO) ++ (⟨#[58]⟩:ByteArray)).size + iA.1.size≤9223372036854775807 then (if 1 + ((((⟨#[64]⟩:ByteArray) ++ iO) ++ (⟨#[58]⟩:ByteArray)) ++ iA.1).size≤9223372036854775807 then (if ((⟨#[60]⟩:ByteArray) ++ ((((⟨#[64]⟩:ByteArray) ++ iO) ++ (⟨#[58]⟩:ByteArray)) ++ iA.1)).size + 1≤9223372036854775807 then (some (((⟨#[60]⟩:ByteArray) ++ ((((⟨#[64]⟩:ByteArray) ++ iO) ++ (⟨#[58]⟩:ByteArray)) ++ iA.1)) ++ (⟨#[62]⟩:ByteArray),iA.2)) else (none)) else (none)) else (none)) else (none)) else (none))) else (if 1 + iA.1.size≤9223372036854775807 then (if ((⟨#[60]⟩:ByteArray) ++ iA.1).size + 1≤9223372036854775807 then (some (((⟨#[60]⟩:ByteArray) ++ iA.1) ++ (⟨#[62]⟩:ByteArray),iA.2)) else (none)) else (none)))))) else (some ((⟨#[]⟩:ByteArray),150)))
theorem kf.calls (k:Nat) (aI:Bool) (iF:Option Addr) (iG:Nat) (dN:List ByteArray) (bn:ByteArray) (eF:ByteArray) (bz:Bool) (r1:ByteArray) (r2:Int) (w:World) (Ea:Kd.C Kd.string w iF dN.length dN) (Eb:dN.length≤iG) (hG:aW w) (h:kf.f k aI dN bn eF bz=some (r1,r2)):
 Calls Tryz.prog 21 #[.agg #[.bool aI,.slice iF dN.length iG,.string bn,.string eF,.bool bz]] w fun e w'=>e= .returned (.tuple #[.string r1,.int .i64 r2])∧Below w.heap.size w w':=by
 have M3:=Tryz.underlying32
 have M4:=Tryz.underlying30
 have yR:=ah.mk Ea
 have BZ:=ah.mk Eb
 clear Ea Eb
 have HB:=ah.mk (Below.refl w.heap.size w)
 have HG:=ah.mk hG
 clear hG
 have H:((fM.f k aI dN bn eF bz).bind fun Vb=>(if Vb=true then (if aI=true then (some ((⟨#[60,62]⟩:ByteArray),0)) else (if eF.toList=([]:List UInt8) then (some ((⟨#[60,112,111,115,116,109,97,115,116,101,114,62]⟩:ByteArray),0)) else ((iH.f k bn eF bz).bind fun iA=>(if (dN.length:Int) > 0 then ((strings_Join.f dN (⟨#[44,64]⟩:ByteArray)).bind fun iO=>(if 1 + iO.size≤9223372036854775807 then (if ((⟨#[64]⟩:ByteArray) ++ iO).size + 1≤9223372036854775807 then (if (((⟨#[64]⟩:ByteArray) ++ iO) ++ (⟨#[58]⟩:ByteArray)).size + iA.1.size≤9223372036854775807 then (if 1 + ((((⟨#[64]⟩:ByteArray) ++ iO) ++ (⟨#[58]⟩:ByteArray)) ++ iA.1).size≤9223372036854775807 then (if ((⟨#[60]⟩:ByteArray) ++ ((((⟨#[64]⟩:ByteArray) ++ iO) ++ (⟨#[58]⟩:ByteArray)) ++ iA.1)).size + 1≤9223372036854775807 then (some (((⟨#[60]⟩:ByteArray) ++ ((((⟨#[64]⟩:ByteArray) ++ iO) ++ (⟨#[58]⟩:ByteArray)) ++ iA.1)) ++ (⟨#[62]⟩:ByteArray),iA.2)) else (none)) else (none)) else (none)) else (none)) else (none))) else (if 1 + iA.1.size≤9223372036854775807 then (if ((⟨#[60]⟩:ByteArray) ++ iA.1).size + 1≤9223372036854775807 then (some (((⟨#[60]⟩:ByteArray) ++ iA.1) ++ (⟨#[62]⟩:ByteArray),iA.2)) else (none)) else (none)))))) else (some ((⟨#[]⟩:ByteArray),150))))=some (r1,r2):=h
 clear h
 replace H:=Option.bind_eq_some_iff.mp H
 obtain ⟨Vb,oL,H⟩:=H
 replace H:(if Vb=true then (if aI=true then (some ((⟨#[60,62]⟩:ByteArray),0)) else (if eF.toList=([]:List UInt8) then (some ((⟨#[60,112,111,115,116,109,97,115,116,101,114,62]⟩:ByteArray),0)) else ((iH.f k bn eF bz).bind fun iA=>(if (dN.length:Int) > 0 then ((strings_Join.f dN (⟨#[44,64]⟩:ByteArray)).bind fun iO=>(if 1 + iO.size≤9223372036854775807 then (if ((⟨#[64]⟩:ByteArray) ++ iO).size + 1≤9223372036854775807 then (if (((⟨#[64]⟩:ByteArray) ++ iO) ++ (⟨#[58]⟩:ByteArray)).size + iA.1.size≤9223372036854775807 then (if 1 + ((((⟨#[64]⟩:ByteArray) ++ iO) ++ (⟨#[58]⟩:ByteArray)) ++ iA.1).size≤9223372036854775807 then (if ((⟨#[60]⟩:ByteArray) ++ ((((⟨#[64]⟩:ByteArray) ++ iO) ++ (⟨#[58]⟩:ByteArray)) ++ iA.1)).size + 1≤9223372036854775807 then (some (((⟨#[60]⟩:ByteArray) ++ ((((⟨#[64]⟩:ByteArray) ++ iO) ++ (⟨#[58]⟩:ByteArray)) ++ iA.1)) ++ (⟨#[62]⟩:ByteArray),iA.2)) else (none)) else (none)) else (none)) else (none)) else (none))) else (if 1 + iA.1.size≤9223372036854775807 then (if ((⟨#[60]⟩:ByteArray) ++ iA.1).size + 1≤9223372036854775807 then (some (((⟨#[60]⟩:ByteArray) ++ iA.1) ++ (⟨#[62]⟩:ByteArray),iA.2)) else (none)) else (none)))))) else (some ((⟨#[]⟩:ByteArray),150)))=some (r1,r2):=H
 have A2:=ah.mk oL
 clear oL
 by_cases c3:Vb=true
 ·subst c3
  have H1:(if aI=true then (some ((⟨#[60,62]⟩:ByteArray),0)) else (if eF.toList=([]:List UInt8) then (some ((⟨#[60,112,111,115,116,109,97,115,116,101,114,62]⟩:ByteArray),0)) else ((iH.f k bn eF bz).bind fun iA=>(if (dN.length:Int) > 0 then ((strings_Join.f dN (⟨#[44,64]⟩:ByteArray)).bind fun iO=>(if 1 + iO.size≤9223372036854775807 then (if ((⟨#[64]⟩:ByteArray) ++ iO).size + 1≤9223372036854775807 then (if (((⟨#[64]⟩:ByteArray) ++ iO) ++ (⟨#[58]⟩:ByteArray)).size + iA.1.size≤9223372036854775807 then (if 1 + ((((⟨#[64]⟩:ByteArray) ++ iO) ++ (⟨#[58]⟩:ByteArray)) ++ iA.1).size≤9223372036854775807 then (if ((⟨#[60]⟩:ByteArray) ++ ((((⟨#[64]⟩:ByteArray) ++ iO) ++ (⟨#[58]⟩:ByteArray)) ++ iA.1)).size + 1≤9223372036854775807 then (some (((⟨#[60]⟩:ByteArray) ++ ((((⟨#[64]⟩:ByteArray) ++ iO) ++ (⟨#[58]⟩:ByteArray)) ++ iA.1)) ++ (⟨#[62]⟩:ByteArray),iA.2)) else (none)) else (none)) else (none)) else (none)) else (none))) else (if 1 + iA.1.size≤9223372036854775807 then (if ((⟨#[60]⟩:ByteArray) ++ iA.1).size + 1≤9223372036854775807 then (some (((⟨#[60]⟩:ByteArray) ++ iA.1) ++ (⟨#[62]⟩:ByteArray),iA.2)) else (none)) else (none))))))=some (r1,r2):=by rw [if_pos rfl] at H;exact H
  clear H
  have H:=H1
  clear H1
  by_cases c4:aI=true
  ·subst c4
   have H1:(some ((⟨#[60,62]⟩:ByteArray),0))=some (r1,r2):=by rw [if_pos rfl] at H;exact H
   clear H
   have H:=H1
   clear H1
   simp only [Option.some.injEq,Prod.mk.injEq] at H
   obtain ⟨rfl,rfl⟩:=H
   go_enter Tryz.func21,Tryz.ntmps21
   go_wp2_with (first|((with_reducible refine cK (N:=1) rfl ?_);refine cu ?hg (N:=1) ?hd (cs:=#[.bool true,.slice iF dN.length iG,.string bn,.string eF,.bool bz]) (t:=32) ?hr ?_;(case hd=>rfl);(case hg=>rfl);(case hr=>first|(go_simp;done)|(go_simp;rfl));intro fE hg w5 cM hb;have bI:=ah.mk (az cA hb);have bP:=ah.mk (cM);have cw:=ah.mk ((dW:w.heap.size≤fE));have cW:=ah.mk ((dW:w.heap.size≤fE));clear HB;have HB:=bI;have cZ:=bP;have TU:=cw;have MJ:=cW;clear bI bP cw cW;clear hb cM hg;have Xa:w5.cell? ⟨fE,0,none⟩=some (.bool true):=(af cZ.out 0).trans rfl;have Xb:w5.cell? ⟨fE,1,none⟩=some (.slice iF dN.length iG):=(af cZ.out 1).trans rfl;have ad7:w5.cell? ⟨fE,2,none⟩=some (.string bn):=(af cZ.out 2).trans rfl;have ad8:w5.cell? ⟨fE,3,none⟩=some (.string eF):=(af cZ.out 3).trans rfl;have ad9:w5.cell? ⟨fE,4,none⟩=some (.bool bz):=(af cZ.out 4).trans rfl;have Xc:=aa cZ.out 0;have Xd:=aa cZ.out 1;have aea:=aa cZ.out 2;have aeb:=aa cZ.out 3;have aec:=aa cZ.out 4)|((with_reducible refine aT (f:=20) rfl ?_);refine cC (some 8) rfl rfl Tryz.func20 av rfl #[.agg #[.bool true,.slice iF dN.length iG,.string bn,.string eF,.bool bz]] rfl cY ?_;(with_reducible refine (fM.calls k true _ _ dN bn eF bz true _ ?bg ?bY ?eI A2.out).mono ?_);(case bg=>repeat (first|exact (Kd.dI yR.out HB.out)|(with_reducible refine Kd.dZ ?_ _)|(with_reducible refine Kd.eo ?_ _)|(with_reducible refine Kd.eZ ?_)));(case bY=>exact BZ.out);(case eI=>exact aW.below HG.out l5);rintro e w7 ⟨rfl,hb⟩;refine ⟨_,rfl,?_⟩;have bI:=ah.mk (aR (g:=fE) (o:= .cells #[.bool true,.slice iF dN.length iG,.string bn,.string eF,.bool bz] 32 (0,0)) yP hb);have bP:=ah.mk (az l5 hb);clear cZ;clear HB;have cZ:=bI;have HB:=bP;clear bI bP;(try clear hb);(try clear hb2);(try clear hk);(try clear hi);have yT:w7.cell? ⟨fE,0,none⟩=some (.bool true):=(af cZ.out 0).trans rfl;have yU:w7.cell? ⟨fE,1,none⟩=some (.slice iF dN.length iG):=(af cZ.out 1).trans rfl;have Du:w7.cell? ⟨fE,2,none⟩=some (.string bn):=(af cZ.out 2).trans rfl;have GG:w7.cell? ⟨fE,3,none⟩=some (.string eF):=(af cZ.out 3).trans rfl;have GH:w7.cell? ⟨fE,4,none⟩=some (.bool bz):=(af cZ.out 4).trans rfl;have yV:=aa cZ.out 0;have yX:=aa cZ.out 1;have Dv:=aa cZ.out 2;have GI:=aa cZ.out 3;have GJ:=aa cZ.out 4))
   go_ret2
   exact ⟨cU,l5⟩
  ·replace c4:=Bool.eq_false_iff.mpr c4
   subst c4
   have H1:(if eF.toList=([]:List UInt8) then (some ((⟨#[60,112,111,115,116,109,97,115,116,101,114,62]⟩:ByteArray),0)) else ((iH.f k bn eF bz).bind fun iA=>(if (dN.length:Int) > 0 then ((strings_Join.f dN (⟨#[44,64]⟩:ByteArray)).bind fun iO=>(if 1 + iO.size≤9223372036854775807 then (if ((⟨#[64]⟩:ByteArray) ++ iO).size + 1≤9223372036854775807 then (if (((⟨#[64]⟩:ByteArray) ++ iO) ++ (⟨#[58]⟩:ByteArray)).size + iA.1.size≤9223372036854775807 then (if 1 + ((((⟨#[64]⟩:ByteArray) ++ iO) ++ (⟨#[58]⟩:ByteArray)) ++ iA.1).size≤9223372036854775807 then (if ((⟨#[60]⟩:ByteArray) ++ ((((⟨#[64]⟩:ByteArray) ++ iO) ++ (⟨#[58]⟩:ByteArray)) ++ iA.1)).size + 1≤9223372036854775807 then (some (((⟨#[60]⟩:ByteArray) ++ ((((⟨#[64]⟩:ByteArray) ++ iO) ++ (⟨#[58]⟩:ByteArray)) ++ iA.1)) ++ (⟨#[62]⟩:ByteArray),iA.2)) else (none)) else (none)) else (none)) else (none)) else (none))) else (if 1 + iA.1.size≤9223372036854775807 then (if ((⟨#[60]⟩:ByteArray) ++ iA.1).size + 1≤9223372036854775807 then (some (((⟨#[60]⟩:ByteArray) ++ iA.1) ++ (⟨#[62]⟩:ByteArray),iA.2)) else (none)) else (none)))))=some (r1,r2):=by rw [if_neg (show ¬ (false=true) by decide)] at H;exact H
   clear H
   have H:=H1
   clear H1
   by_cases c9:eF.toList=([]:List UInt8)
   ·rw [if_pos c9] at H
    have IM:(eF.toList == ([]:List UInt8))=true:=beq_iff_eq.mpr c9
    have UY:(eF.toList != ([]:List UInt8))=false:=bne_eq_false_iff_eq.mpr c9
    clear c9
    simp only [Option.some.injEq,Prod.mk.injEq] at H
    obtain ⟨rfl,rfl⟩:=H
    go_enter Tryz.func21,Tryz.ntmps21
    go_wp2_with (first|((with_reducible refine cK (N:=1) rfl ?_);refine cu ?hg (N:=1) ?hd (cs:=#[.bool false,.slice iF dN.length iG,.string bn,.string eF,.bool bz]) (t:=32) ?hr ?_;(case hd=>rfl);(case hg=>rfl);(case hr=>first|(go_simp;done)|(go_simp;rfl));intro fE hg vI cM hb;have bI:=ah.mk (az cA hb);have bP:=ah.mk (cM);have cw:=ah.mk ((dW:w.heap.size≤fE));have cW:=ah.mk ((dW:w.heap.size≤fE));clear HB;have HB:=bI;have cZ:=bP;have TU:=cw;have MJ:=cW;clear bI bP cw cW;clear hb cM hg;have uM:vI.cell? ⟨fE,0,none⟩=some (.bool false):=(af cZ.out 0).trans rfl;have uN:vI.cell? ⟨fE,1,none⟩=some (.slice iF dN.length iG):=(af cZ.out 1).trans rfl;have uO:vI.cell? ⟨fE,2,none⟩=some (.string bn):=(af cZ.out 2).trans rfl;have zR:vI.cell? ⟨fE,3,none⟩=some (.string eF):=(af cZ.out 3).trans rfl;have zS:vI.cell? ⟨fE,4,none⟩=some (.bool bz):=(af cZ.out 4).trans rfl;have uP:=aa cZ.out 0;have uQ:=aa cZ.out 1;have uR:=aa cZ.out 2;have zT:=aa cZ.out 3;have zU:=aa cZ.out 4)|((with_reducible refine aT (f:=20) rfl ?_);refine cC (some 8) rfl rfl Tryz.func20 av rfl #[.agg #[.bool false,.slice iF dN.length iG,.string bn,.string eF,.bool bz]] rfl cY ?_;(with_reducible refine (fM.calls k false _ _ dN bn eF bz true _ ?bg ?bY ?eI A2.out).mono ?_);(case bg=>repeat (first|exact (Kd.dI yR.out HB.out)|(with_reducible refine Kd.dZ ?_ _)|(with_reducible refine Kd.eo ?_ _)|(with_reducible refine Kd.eZ ?_)));(case bY=>exact BZ.out);(case eI=>exact aW.below HG.out l5);rintro e IB ⟨rfl,hb⟩;refine ⟨_,rfl,?_⟩;have bI:=ah.mk (aR (g:=fE) (o:= .cells #[.bool false,.slice iF dN.length iG,.string bn,.string eF,.bool bz] 32 (0,0)) yP hb);have bP:=ah.mk (az l5 hb);clear cZ;clear HB;have cZ:=bI;have HB:=bP;clear bI bP;(try clear hb);(try clear hb2);(try clear hk);(try clear hi);have nJ:IB.cell? ⟨fE,0,none⟩=some (.bool false):=(af cZ.out 0).trans rfl;have nK:IB.cell? ⟨fE,1,none⟩=some (.slice iF dN.length iG):=(af cZ.out 1).trans rfl;have qh:IB.cell? ⟨fE,2,none⟩=some (.string bn):=(af cZ.out 2).trans rfl;have uD:IB.cell? ⟨fE,3,none⟩=some (.string eF):=(af cZ.out 3).trans rfl;have uE:IB.cell? ⟨fE,4,none⟩=some (.bool bz):=(af cZ.out 4).trans rfl;have nL:=aa cZ.out 0;have nM:=aa cZ.out 1;have qi:=aa cZ.out 2;have uF:=aa cZ.out 3;have uG:=aa cZ.out 4))
    go_ret2
    exact ⟨cU,l5⟩
   ·rw [if_neg c9] at H
    have IM:(eF.toList == ([]:List UInt8))=false:=beq_eq_false_iff_ne.mpr c9
    have UY:(eF.toList != ([]:List UInt8))=true:=bne_iff_ne.mpr c9
    replace H:=Option.bind_eq_some_iff.mp H
    obtain ⟨⟨pE,X3⟩,CK,H⟩:=H
    replace H:(if (dN.length:Int) > 0 then ((strings_Join.f dN (⟨#[44,64]⟩:ByteArray)).bind fun iO=>(if 1 + iO.size≤9223372036854775807 then (if ((⟨#[64]⟩:ByteArray) ++ iO).size + 1≤9223372036854775807 then (if (((⟨#[64]⟩:ByteArray) ++ iO) ++ (⟨#[58]⟩:ByteArray)).size + pE.size≤9223372036854775807 then (if 1 + ((((⟨#[64]⟩:ByteArray) ++ iO) ++ (⟨#[58]⟩:ByteArray)) ++ pE).size≤9223372036854775807 then (if ((⟨#[60]⟩:ByteArray) ++ ((((⟨#[64]⟩:ByteArray) ++ iO) ++ (⟨#[58]⟩:ByteArray)) ++ pE)).size + 1≤9223372036854775807 then (some (((⟨#[60]⟩:ByteArray) ++ ((((⟨#[64]⟩:ByteArray) ++ iO) ++ (⟨#[58]⟩:ByteArray)) ++ pE)) ++ (⟨#[62]⟩:ByteArray),X3)) else (none)) else (none)) else (none)) else (none)) else (none))) else (if 1 + pE.size≤9223372036854775807 then (if ((⟨#[60]⟩:ByteArray) ++ pE).size + 1≤9223372036854775807 then (some (((⟨#[60]⟩:ByteArray) ++ pE) ++ (⟨#[62]⟩:ByteArray),X3)) else (none)) else (none)))=some (r1,r2):=H
    have W7:=ah.mk CK
    clear CK
    by_cases c15:(dN.length:Int) > 0
    ·rw [if_pos c15] at H
     have GW:decide (0 < (dN.length:Int))=true:=decide_eq_true c15
     have S4:decide (0 < dN.length)=true:=decide_eq_true aq
     clear c15
     replace H:=Option.bind_eq_some_iff.mp H
     obtain ⟨iO,NS,H⟩:=H
     replace H:(if 1 + iO.size≤9223372036854775807 then (if ((⟨#[64]⟩:ByteArray) ++ iO).size + 1≤9223372036854775807 then (if (((⟨#[64]⟩:ByteArray) ++ iO) ++ (⟨#[58]⟩:ByteArray)).size + pE.size≤9223372036854775807 then (if 1 + ((((⟨#[64]⟩:ByteArray) ++ iO) ++ (⟨#[58]⟩:ByteArray)) ++ pE).size≤9223372036854775807 then (if ((⟨#[60]⟩:ByteArray) ++ ((((⟨#[64]⟩:ByteArray) ++ iO) ++ (⟨#[58]⟩:ByteArray)) ++ pE)).size + 1≤9223372036854775807 then (some (((⟨#[60]⟩:ByteArray) ++ ((((⟨#[64]⟩:ByteArray) ++ iO) ++ (⟨#[58]⟩:ByteArray)) ++ pE)) ++ (⟨#[62]⟩:ByteArray),X3)) else (none)) else (none)) else (none)) else (none)) else (none))=some (r1,r2):=H
     have A16:=ah.mk NS
     clear NS
     by_cases c17: 1 + iO.size≤9223372036854775807
     ·rw [if_pos c17] at H
      have S6:=eq_true c17
      have arj:decide (1 + iO.size≤9223372036854775807)=true:=decide_eq_true c17
      try have ark:(9223372036854775807 < 1 + iO.size)=False:=eq_false (Nat.not_lt.2 c17)
      by_cases c18:((⟨#[64]⟩:ByteArray) ++ iO).size + 1≤9223372036854775807
      ·rw [if_pos c18] at H
       have agD:=eq_true c18
       have arl:decide (((⟨#[64]⟩:ByteArray) ++ iO).size + 1≤9223372036854775807)=true:=decide_eq_true c18
       try have agE:(9223372036854775807 < ((⟨#[64]⟩:ByteArray) ++ iO).size + 1)=False:=eq_false (Nat.not_lt.2 c18)
       try (have ack:=agE;simp only [ByteArray.size_append] at ack)
       try have arn:(9223372036854775807 < (1 + iO.size) + 1)=False:=ack
       by_cases c19:(((⟨#[64]⟩:ByteArray) ++ iO) ++ (⟨#[58]⟩:ByteArray)).size + pE.size≤9223372036854775807
       ·rw [if_pos c19] at H
        have wF:=eq_true c19
        have El:decide ((((⟨#[64]⟩:ByteArray) ++ iO) ++ (⟨#[58]⟩:ByteArray)).size + pE.size≤9223372036854775807)=true:=decide_eq_true c19
        try have agF:(9223372036854775807 < (((⟨#[64]⟩:ByteArray) ++ iO) ++ (⟨#[58]⟩:ByteArray)).size + pE.size)=False:=eq_false (Nat.not_lt.2 c19)
        try (have acm:=agF;simp only [ByteArray.size_append] at acm)
        try have aro:(9223372036854775807 < (1 + iO.size + 1) + pE.size)=False:=acm
        by_cases c20: 1 + ((((⟨#[64]⟩:ByteArray) ++ iO) ++ (⟨#[58]⟩:ByteArray)) ++ pE).size≤9223372036854775807
        ·rw [if_pos c20] at H
         have Jg:=eq_true c20
         have agG:decide (1 + ((((⟨#[64]⟩:ByteArray) ++ iO) ++ (⟨#[58]⟩:ByteArray)) ++ pE).size≤9223372036854775807)=true:=decide_eq_true c20
         try have acn:(9223372036854775807 < 1 + ((((⟨#[64]⟩:ByteArray) ++ iO) ++ (⟨#[58]⟩:ByteArray)) ++ pE).size)=False:=eq_false (Nat.not_lt.2 c20)
         try (have aco:=acn;simp only [ByteArray.size_append] at aco)
         try have arp:(9223372036854775807 < 1 + (1 + iO.size + 1 + pE.size))=False:=aco
         by_cases c21:((⟨#[60]⟩:ByteArray) ++ ((((⟨#[64]⟩:ByteArray) ++ iO) ++ (⟨#[58]⟩:ByteArray)) ++ pE)).size + 1≤9223372036854775807
         ·rw [if_pos c21] at H
          have R8:=eq_true c21
          have X4:decide (((⟨#[60]⟩:ByteArray) ++ ((((⟨#[64]⟩:ByteArray) ++ iO) ++ (⟨#[58]⟩:ByteArray)) ++ pE)).size + 1≤9223372036854775807)=true:=decide_eq_true c21
          try have TV:(9223372036854775807 < ((⟨#[60]⟩:ByteArray) ++ ((((⟨#[64]⟩:ByteArray) ++ iO) ++ (⟨#[58]⟩:ByteArray)) ++ pE)).size + 1)=False:=eq_false (Nat.not_lt.2 c21)
          try (have Oc:=TV;simp only [ByteArray.size_append] at Oc)
          try have agH:(9223372036854775807 < (1 + (1 + iO.size + 1 + pE.size)) + 1)=False:=Oc
          simp only [Option.some.injEq,Prod.mk.injEq] at H
          obtain ⟨rfl,rfl⟩:=H
          go_enter Tryz.func21,Tryz.ntmps21
          go_wp2_with (first|((with_reducible refine cK (N:=1) rfl ?_);refine cu ?hg (N:=1) ?hd (cs:=#[.bool false,.slice iF dN.length iG,.string bn,.string eF,.bool bz]) (t:=32) ?hr ?_;(case hd=>rfl);(case hg=>rfl);(case hr=>first|(go_simp;done)|(go_simp;rfl));intro fE hg IC cM hb;have bI:=ah.mk (az cA hb);have bP:=ah.mk (cM);have cw:=ah.mk ((dW:w.heap.size≤fE));have cW:=ah.mk ((dW:w.heap.size≤fE));clear HB;have HB:=bI;have cZ:=bP;have TU:=cw;have MJ:=cW;clear bI bP cw cW;clear hb cM hg;have FM:IC.cell? ⟨fE,0,none⟩=some (.bool false):=(af cZ.out 0).trans rfl;have FN:IC.cell? ⟨fE,1,none⟩=some (.slice iF dN.length iG):=(af cZ.out 1).trans rfl;have FO:IC.cell? ⟨fE,2,none⟩=some (.string bn):=(af cZ.out 2).trans rfl;have TM:IC.cell? ⟨fE,3,none⟩=some (.string eF):=(af cZ.out 3).trans rfl;have TN:IC.cell? ⟨fE,4,none⟩=some (.bool bz):=(af cZ.out 4).trans rfl;have FP:=aa cZ.out 0;have FQ:=aa cZ.out 1;have FR:=aa cZ.out 2;have TP:=aa cZ.out 3;have TQ:=aa cZ.out 4)|((with_reducible refine aT (f:=20) rfl ?_);refine cC (some 8) rfl rfl Tryz.func20 av rfl #[.agg #[.bool false,.slice iF dN.length iG,.string bn,.string eF,.bool bz]] rfl cY ?_;(with_reducible refine (fM.calls k false _ _ dN bn eF bz true _ ?bg ?bY ?eI A2.out).mono ?_);(case bg=>repeat (first|exact (Kd.dI yR.out HB.out)|(with_reducible refine Kd.dZ ?_ _)|(with_reducible refine Kd.eo ?_ _)|(with_reducible refine Kd.eZ ?_)));(case bY=>exact BZ.out);(case eI=>exact aW.below HG.out l5);rintro e Mh ⟨rfl,hb⟩;refine ⟨_,rfl,?_⟩;have bI:=ah.mk (aR (g:=fE) (o:= .cells #[.bool false,.slice iF dN.length iG,.string bn,.string eF,.bool bz] 32 (0,0)) yP hb);have bP:=ah.mk (az l5 hb);clear cZ;clear HB;have cZ:=bI;have HB:=bP;clear bI bP;(try clear hb);(try clear hb2);(try clear hk);(try clear hi);have vC:Mh.cell? ⟨fE,0,none⟩=some (.bool false):=(af cZ.out 0).trans rfl;have vD:Mh.cell? ⟨fE,1,none⟩=some (.slice iF dN.length iG):=(af cZ.out 1).trans rfl;have vE:Mh.cell? ⟨fE,2,none⟩=some (.string bn):=(af cZ.out 2).trans rfl;have Ao:Mh.cell? ⟨fE,3,none⟩=some (.string eF):=(af cZ.out 3).trans rfl;have Ap:Mh.cell? ⟨fE,4,none⟩=some (.bool bz):=(af cZ.out 4).trans rfl;have vF:=aa cZ.out 0;have vG:=aa cZ.out 1;have vH:=aa cZ.out 2;have Aq:=aa cZ.out 3;have Ar:=aa cZ.out 4)|((with_reducible refine aT (f:=22) rfl ?_);refine cC (some 21) rfl rfl Tryz.func22 av rfl #[.agg #[.string bn,.string eF,.bool bz]] rfl cY ?_;(with_reducible refine (iH.calls k bn eF bz pE X3 _ ?bg W7.out).mono ?_);(case bg=>exact aW.below HG.out l5);rintro e BF ⟨rfl,hb⟩;refine ⟨_,rfl,?_⟩;have bI:=ah.mk (aR (g:=fE) (o:= .cells #[.bool false,.slice iF dN.length iG,.string bn,.string eF,.bool bz] 32 (0,0)) yP hb);have bP:=ah.mk (az l5 hb);clear cZ;clear HB;have cZ:=bI;have HB:=bP;clear bI bP;(try clear hb);(try clear hb2);(try clear hk);(try clear hi);have Sa:BF.cell? ⟨fE,0,none⟩=some (.bool false):=(af cZ.out 0).trans rfl;have Sb:BF.cell? ⟨fE,1,none⟩=some (.slice iF dN.length iG):=(af cZ.out 1).trans rfl;have Zy:BF.cell? ⟨fE,2,none⟩=some (.string bn):=(af cZ.out 2).trans rfl;have Zz:BF.cell? ⟨fE,3,none⟩=some (.string eF):=(af cZ.out 3).trans rfl;have ZA:BF.cell? ⟨fE,4,none⟩=some (.bool bz):=(af cZ.out 4).trans rfl;have Sc:=aa cZ.out 0;have Sd:=aa cZ.out 1;have ZB:=aa cZ.out 2;have ZC:=aa cZ.out 3;have ZE:=aa cZ.out 4)|((with_reducible refine aT (f:=66) rfl ?_);refine cC (some 30) rfl rfl Tryz.func66 av rfl #[.slice iF dN.length iG,.string (⟨#[44,64]⟩:ByteArray)] rfl cY ?_;(with_reducible refine (strings_Join.calls _ _ dN (⟨#[44,64]⟩:ByteArray) iO _ ?bg ?bY A16.out).mono ?_);(case bg=>repeat (first|exact (Kd.dI yR.out HB.out)|(with_reducible refine Kd.dZ ?_ _)|(with_reducible refine Kd.eo ?_ _)|(with_reducible refine Kd.eZ ?_)));(case bY=>exact BZ.out);rintro e w28 ⟨rfl,hb⟩;refine ⟨_,rfl,?_⟩;have bI:=ah.mk (aR (g:=fE) (o:= .cells #[.bool false,.slice iF dN.length iG,.string bn,.string eF,.bool bz] 32 (0,0)) yP hb);have bP:=ah.mk (az l5 hb);clear cZ;clear HB;have cZ:=bI;have HB:=bP;clear bI bP;(try clear hb);(try clear hb2);(try clear hk);(try clear hi)))
          go_ret2
          exact ⟨cU,l5⟩
         ·rw [if_neg c21] at H
          exact absurd H bf
        ·rw [if_neg c20] at H
         exact absurd H bf
       ·rw [if_neg c19] at H
        exact absurd H bf
      ·rw [if_neg c18] at H
       exact absurd H bf
     ·rw [if_neg c17] at H
      exact absurd H bf
    ·rw [if_neg c15] at H
     have GW:decide (0 < (dN.length:Int))=false:=decide_eq_false c15
     have S4:decide (0 < dN.length)=false:=decide_eq_false aq
     clear c15
     by_cases VP: 1 + pE.size≤9223372036854775807
     ·rw [if_pos VP] at H
      have abW:=eq_true VP
      have arq:decide (1 + pE.size≤9223372036854775807)=true:=decide_eq_true VP
      try have ars:(9223372036854775807 < 1 + pE.size)=False:=eq_false (Nat.not_lt.2 VP)
      by_cases IA:((⟨#[60]⟩:ByteArray) ++ pE).size + 1≤9223372036854775807
      ·rw [if_pos IA] at H
       have WU:=eq_true IA
       have acp:decide (((⟨#[60]⟩:ByteArray) ++ pE).size + 1≤9223372036854775807)=true:=decide_eq_true IA
       try have X5:(9223372036854775807 < ((⟨#[60]⟩:ByteArray) ++ pE).size + 1)=False:=eq_false (Nat.not_lt.2 IA)
       try (have acq:=X5;simp only [ByteArray.size_append] at acq)
       try have art:(9223372036854775807 < (1 + pE.size) + 1)=False:=acq
       simp only [Option.some.injEq,Prod.mk.injEq] at H
       obtain ⟨rfl,rfl⟩:=H
       go_enter Tryz.func21,Tryz.ntmps21
       go_wp2_with (first|((with_reducible refine cK (N:=1) rfl ?_);refine cu ?hg (N:=1) ?hd (cs:=#[.bool false,.slice iF dN.length iG,.string bn,.string eF,.bool bz]) (t:=32) ?hr ?_;(case hd=>rfl);(case hg=>rfl);(case hr=>first|(go_simp;done)|(go_simp;rfl));intro fE hg w31 cM hb;have bI:=ah.mk (az cA hb);have bP:=ah.mk (cM);have cw:=ah.mk ((dW:w.heap.size≤fE));have cW:=ah.mk ((dW:w.heap.size≤fE));clear HB;have HB:=bI;have cZ:=bP;have TU:=cw;have MJ:=cW;clear bI bP cw cW;clear hb cM hg;have akP:w31.cell? ⟨fE,0,none⟩=some (.bool false):=(af cZ.out 0).trans rfl;have akQ:w31.cell? ⟨fE,1,none⟩=some (.slice iF dN.length iG):=(af cZ.out 1).trans rfl;have akR:w31.cell? ⟨fE,2,none⟩=some (.string bn):=(af cZ.out 2).trans rfl;have akS:w31.cell? ⟨fE,3,none⟩=some (.string eF):=(af cZ.out 3).trans rfl;have akT:w31.cell? ⟨fE,4,none⟩=some (.bool bz):=(af cZ.out 4).trans rfl;have akU:=aa cZ.out 0;have akV:=aa cZ.out 1;have akW:=aa cZ.out 2;have akX:=aa cZ.out 3;have akY:=aa cZ.out 4)|((with_reducible refine aT (f:=20) rfl ?_);refine cC (some 8) rfl rfl Tryz.func20 av rfl #[.agg #[.bool false,.slice iF dN.length iG,.string bn,.string eF,.bool bz]] rfl cY ?_;(with_reducible refine (fM.calls k false _ _ dN bn eF bz true _ ?bg ?bY ?eI A2.out).mono ?_);(case bg=>repeat (first|exact (Kd.dI yR.out HB.out)|(with_reducible refine Kd.dZ ?_ _)|(with_reducible refine Kd.eo ?_ _)|(with_reducible refine Kd.eZ ?_)));(case bY=>exact BZ.out);(case eI=>exact aW.below HG.out l5);rintro e FJ ⟨rfl,hb⟩;refine ⟨_,rfl,?_⟩;have bI:=ah.mk (aR (g:=fE) (o:= .cells #[.bool false,.slice iF dN.length iG,.string bn,.string eF,.bool bz] 32 (0,0)) yP hb);have bP:=ah.mk (az l5 hb);clear cZ;clear HB;have cZ:=bI;have HB:=bP;clear bI bP;(try clear hb);(try clear hb2);(try clear hk);(try clear hi);have CN:FJ.cell? ⟨fE,0,none⟩=some (.bool false):=(af cZ.out 0).trans rfl;have CO:FJ.cell? ⟨fE,1,none⟩=some (.slice iF dN.length iG):=(af cZ.out 1).trans rfl;have CP:FJ.cell? ⟨fE,2,none⟩=some (.string bn):=(af cZ.out 2).trans rfl;have Ml:FJ.cell? ⟨fE,3,none⟩=some (.string eF):=(af cZ.out 3).trans rfl;have Mm:FJ.cell? ⟨fE,4,none⟩=some (.bool bz):=(af cZ.out 4).trans rfl;have CQ:=aa cZ.out 0;have CR:=aa cZ.out 1;have CS:=aa cZ.out 2;have Mn:=aa cZ.out 3;have Mo:=aa cZ.out 4)|((with_reducible refine aT (f:=22) rfl ?_);refine cC (some 21) rfl rfl Tryz.func22 av rfl #[.agg #[.string bn,.string eF,.bool bz]] rfl cY ?_;(with_reducible refine (iH.calls k bn eF bz pE X3 _ ?bg W7.out).mono ?_);(case bg=>exact aW.below HG.out l5);rintro e TW ⟨rfl,hb⟩;refine ⟨_,rfl,?_⟩;have bI:=ah.mk (aR (g:=fE) (o:= .cells #[.bool false,.slice iF dN.length iG,.string bn,.string eF,.bool bz] 32 (0,0)) yP hb);have bP:=ah.mk (az l5 hb);clear cZ;clear HB;have cZ:=bI;have HB:=bP;clear bI bP;(try clear hb);(try clear hb2);(try clear hk);(try clear hi);have Cw:TW.cell? ⟨fE,0,none⟩=some (.bool false):=(af cZ.out 0).trans rfl;have Cx:TW.cell? ⟨fE,1,none⟩=some (.slice iF dN.length iG):=(af cZ.out 1).trans rfl;have Cy:TW.cell? ⟨fE,2,none⟩=some (.string bn):=(af cZ.out 2).trans rfl;have SX:TW.cell? ⟨fE,3,none⟩=some (.string eF):=(af cZ.out 3).trans rfl;have SY:TW.cell? ⟨fE,4,none⟩=some (.bool bz):=(af cZ.out 4).trans rfl;have Cz:=aa cZ.out 0;have CC:=aa cZ.out 1;have CD:=aa cZ.out 2;have SZ:=aa cZ.out 3;have S0:=aa cZ.out 4))
       go_ret2
       exact ⟨cU,l5⟩
      ·rw [if_neg IA] at H
       exact absurd H bf
     ·rw [if_neg VP] at H
      exact absurd H bf
 ·replace c3:=Bool.eq_false_iff.mpr c3
  subst c3
  have H1:(some ((⟨#[]⟩:ByteArray),150))=some (r1,r2):=by rw [if_neg (show ¬ (false=true) by decide)] at H;exact H
  clear H
  have H:=H1
  clear H1
  simp only [Option.some.injEq,Prod.mk.injEq] at H
  obtain ⟨rfl,rfl⟩:=H
  go_enter Tryz.func21,Tryz.ntmps21
  go_wp2_with (first|((with_reducible refine cK (N:=1) rfl ?_);refine cu ?hg (N:=1) ?hd (cs:=#[.bool aI,.slice iF dN.length iG,.string bn,.string eF,.bool bz]) (t:=32) ?hr ?_;(case hd=>rfl);(case hg=>rfl);(case hr=>first|(go_simp;done)|(go_simp;rfl));intro fE hg w37 cM hb;have bI:=ah.mk (az cA hb);have bP:=ah.mk (cM);have cw:=ah.mk ((dW:w.heap.size≤fE));have cW:=ah.mk ((dW:w.heap.size≤fE));clear HB;have HB:=bI;have cZ:=bP;have TU:=cw;have MJ:=cW;clear bI bP cw cW;clear hb cM hg;have ZR:w37.cell? ⟨fE,0,none⟩=some (.bool aI):=(af cZ.out 0).trans rfl;have ZT:w37.cell? ⟨fE,1,none⟩=some (.slice iF dN.length iG):=(af cZ.out 1).trans rfl;have ZU:w37.cell? ⟨fE,2,none⟩=some (.string bn):=(af cZ.out 2).trans rfl;have ZV:w37.cell? ⟨fE,3,none⟩=some (.string eF):=(af cZ.out 3).trans rfl;have ZW:w37.cell? ⟨fE,4,none⟩=some (.bool bz):=(af cZ.out 4).trans rfl;have ZX:=aa cZ.out 0;have ZY:=aa cZ.out 1;have ZZ:=aa cZ.out 2;have Z0:=aa cZ.out 3;have Z1:=aa cZ.out 4)|((with_reducible refine aT (f:=20) rfl ?_);refine cC (some 8) rfl rfl Tryz.func20 av rfl #[.agg #[.bool aI,.slice iF dN.length iG,.string bn,.string eF,.bool bz]] rfl cY ?_;(with_reducible refine (fM.calls k aI _ _ dN bn eF bz false _ ?bg ?bY ?eI A2.out).mono ?_);(case bg=>repeat (first|exact (Kd.dI yR.out HB.out)|(with_reducible refine Kd.dZ ?_ _)|(with_reducible refine Kd.eo ?_ _)|(with_reducible refine Kd.eZ ?_)));(case bY=>exact BZ.out);(case eI=>exact aW.below HG.out l5);rintro e w39 ⟨rfl,hb⟩;refine ⟨_,rfl,?_⟩;have bI:=ah.mk (aR (g:=fE) (o:= .cells #[.bool aI,.slice iF dN.length iG,.string bn,.string eF,.bool bz] 32 (0,0)) yP hb);have bP:=ah.mk (az l5 hb);clear cZ;clear HB;have cZ:=bI;have HB:=bP;clear bI bP;(try clear hb);(try clear hb2);(try clear hk);(try clear hi)))
  go_ret2
  exact ⟨cU,l5⟩
def ez.f (a0:Int):Option (Bool):=if a0=3 then (some true) else (some (a0 == 4))
theorem ez.calls (a0:Int) (r:Bool) (w:World) (h:ez.f a0=some r):
 Calls Tryz.prog 135 #[.int .u8 a0] w fun e w'=>e= .returned (.bool r)∧kA w w':=by
 have H:(if a0=3 then (some true) else (some (a0 == 4)))=some r:=h
 clear h
 by_cases c2:a0=3
 ·rw [if_pos c2] at H
  have Dw:(a0 == 3)=true:=beq_iff_eq.mpr c2
  have P8:(a0 != 3)=false:=bne_eq_false_iff_eq.mpr c2
  clear c2
  obtain rfl:=Option.some.inj H
  go_enter Tryz.func135,Tryz.ntmps135
  go_wp2
  go_ret
  exact ⟨dL,kN⟩
 ·rw [if_neg c2] at H
  have Dw:(a0 == 3)=false:=beq_eq_false_iff_ne.mpr c2
  have P8:(a0 != 3)=true:=bne_iff_ne.mpr c2
  obtain rfl:=Option.some.inj H
  go_enter Tryz.func135,Tryz.ntmps135
  go_wp2
  go_ret
  exact ⟨dL,kN⟩
mutual
def bV.j0:Nat→ByteArray→ByteArray→Int→ByteArray→Bool→List ByteArray→ByteArray→ByteArray→Bool→List (gI)→Option (ByteArray)
 | 0,_,_,_,_,_,_,_,_,_,_ =>none
 |k + 1,x3,x4,akZ,ak0,aa5,aa6,aa7,aa8,aa9,TX=>(kf.f k aa5 aa6 aa7 aa8 aa9).bind fun X6=>(if x4.size + X6.1.size≤9223372036854775807 then (if x3.size + (x4 ++ X6.1).size≤9223372036854775807 then (bV.l0 k (x3 ++ (x4 ++ X6.1)) TX (TX.length:Int) 0) else (none)) else (none))
def bV.l0:Nat→ByteArray→List (gI)→Int→Int→Option (ByteArray)
 | 0,_,_,_,_ =>none
 |k + 1,x3,VY,x41,TY=>if TY < x41 then (if 0≤TY then (if TY < (VY.length:Int) then (if 1 + ((cv VY TY).f0).size≤9223372036854775807 then (if x3.size + ((⟨#[32]⟩:ByteArray) ++ ((cv VY TY).f0)).size≤9223372036854775807 then (if (cv VY TY).f2=true then (if 1 + ((cv VY TY).f1).size≤9223372036854775807 then (if (x3 ++ ((⟨#[32]⟩:ByteArray) ++ ((cv VY TY).f0))).size + ((⟨#[61]⟩:ByteArray) ++ ((cv VY TY).f1)).size≤9223372036854775807 then (bV.l0 k ((x3 ++ ((⟨#[32]⟩:ByteArray) ++ ((cv VY TY).f0))) ++ ((⟨#[61]⟩:ByteArray) ++ ((cv VY TY).f1))) VY x41 (wrap64 (TY + 1))) else (none)) else (none)) else (bV.l0 k (x3 ++ ((⟨#[32]⟩:ByteArray) ++ ((cv VY TY).f0))) VY x41 (wrap64 (TY + 1)))) else (none)) else (none)) else (none)) else (none)) else (some x3)
end
def bV.f (k:Nat) (aI:Int) (bh:ByteArray) (bn:Bool) (bT:List ByteArray) (bz:ByteArray) (bW:ByteArray) (bX:Bool) (bw:List (gI)):Option (ByteArray):=(gH.f aI).bind fun lT=>((ez.f aI).bind fun Od=>(if Od=true then (if aI=3 then (bV.j0 k lT (⟨#[32,70,82,79,77,58]⟩:ByteArray) aI bh bn bT bz bW bX bw) else (bV.j0 k lT (⟨#[32,84,79,58]⟩:ByteArray) aI bh bn bT bz bW bX bw)) else (if bh.toList=([]:List UInt8) then (some lT) else (if 1 + bh.size≤9223372036854775807 then (if lT.size + ((⟨#[32]⟩:ByteArray) ++ bh).size≤9223372036854775807 then (some (lT ++ ((⟨#[32]⟩:ByteArray) ++ bh))) else (none)) else (none)))))
theorem bV.calls (k:Nat) (aI:Int) (bh:ByteArray) (bn:Bool) (dn:Option Addr) (dw:Nat) (bT:List ByteArray) (bz:ByteArray) (bW:ByteArray) (bX:Bool) (dF:Option Addr) (dx:Nat) (bw:List (gI)) (r:ByteArray) (w:World) (sw:Kd.C Kd.string w dn bT.length bT) (sx:bT.length≤dw) (sy:Kd.C BC w dF bw.length bw) (sA:bw.length≤dx) (hG:aW w) (h:bV.f k aI bh bn bT bz bW bX bw=some r):
 Calls Tryz.prog 89 #[.agg #[.int .u8 aI,.string bh,.bool bn,.slice dn bT.length dw,.string bz,.string bW,.bool bX,.slice dF bw.length dx]] w fun e w'=>e= .returned (.string r)∧Below w.heap.size w w':=by
 have Na:=Tryz.underlying35
 have M3:=Tryz.underlying32
 have UR:=Tryz.underlying58
 have kV:=ah.mk sw
 have kW:=ah.mk sx
 clear sw sx
 have lS:=ah.mk sy
 have oD:=ah.mk sA
 clear sy sA
 have HB:=ah.mk (Below.refl w.heap.size w)
 have HG:=ah.mk hG
 clear hG
 have H:((gH.f aI).bind fun lT=>((ez.f aI).bind fun Od=>(if Od=true then (if aI=3 then (bV.j0 k lT (⟨#[32,70,82,79,77,58]⟩:ByteArray) aI bh bn bT bz bW bX bw) else (bV.j0 k lT (⟨#[32,84,79,58]⟩:ByteArray) aI bh bn bT bz bW bX bw)) else (if bh.toList=([]:List UInt8) then (some lT) else (if 1 + bh.size≤9223372036854775807 then (if lT.size + ((⟨#[32]⟩:ByteArray) ++ bh).size≤9223372036854775807 then (some (lT ++ ((⟨#[32]⟩:ByteArray) ++ bh))) else (none)) else (none))))))=some r:=h
 clear h
 replace H:=Option.bind_eq_some_iff.mp H
 obtain ⟨lT,oL,H⟩:=H
 replace H:((ez.f aI).bind fun Od=>(if Od=true then (if aI=3 then (bV.j0 k lT (⟨#[32,70,82,79,77,58]⟩:ByteArray) aI bh bn bT bz bW bX bw) else (bV.j0 k lT (⟨#[32,84,79,58]⟩:ByteArray) aI bh bn bT bz bW bX bw)) else (if bh.toList=([]:List UInt8) then (some lT) else (if 1 + bh.size≤9223372036854775807 then (if lT.size + ((⟨#[32]⟩:ByteArray) ++ bh).size≤9223372036854775807 then (some (lT ++ ((⟨#[32]⟩:ByteArray) ++ bh))) else (none)) else (none)))))=some r:=H
 have A2:=ah.mk oL
 clear oL
 replace H:=Option.bind_eq_some_iff.mp H
 obtain ⟨Od,zb,H⟩:=H
 replace H:(if Od=true then (if aI=3 then (bV.j0 k lT (⟨#[32,70,82,79,77,58]⟩:ByteArray) aI bh bn bT bz bW bX bw) else (bV.j0 k lT (⟨#[32,84,79,58]⟩:ByteArray) aI bh bn bT bz bW bX bw)) else (if bh.toList=([]:List UInt8) then (some lT) else (if 1 + bh.size≤9223372036854775807 then (if lT.size + ((⟨#[32]⟩:ByteArray) ++ bh).size≤9223372036854775807 then (some (lT ++ ((⟨#[32]⟩:ByteArray) ++ bh))) else (none)) else (none))))=some r:=H
 have A3:=ah.mk zb
 clear zb
 by_cases c4:Od=true
 ·subst c4
  have H1:(if aI=3 then (bV.j0 k lT (⟨#[32,70,82,79,77,58]⟩:ByteArray) aI bh bn bT bz bW bX bw) else (bV.j0 k lT (⟨#[32,84,79,58]⟩:ByteArray) aI bh bn bT bz bW bX bw))=some r:=by rw [if_pos rfl] at H;exact H
  clear H
  have H:=H1
  clear H1
  have HC5:=ah.mk H
  clear H
  go_enter Tryz.func89,Tryz.ntmps89
  go_upto_if 27 with (first|((with_reducible refine cK (N:=1) rfl ?_);refine cu ?hg (N:=1) ?hd (cs:=#[.int .u8 aI,.string bh,.bool bn,.slice dn bT.length dw,.string bz,.string bW,.bool bX,.slice dF bw.length dx]) (t:=35) ?hr ?_;(case hd=>rfl);(case hg=>rfl);(case hr=>first|(go_simp;done)|(go_simp;rfl));intro eT hg w6 cM hb;have bI:=ah.mk (az cA hb);have bP:=ah.mk (cM);have cw:=ah.mk ((dW:w.heap.size≤eT));have cW:=ah.mk ((dW:w.heap.size≤eT));clear HB;have HB:=bI;have cL:=bP;have acr:=cw;have MK:=cW;clear bI bP cw cW;clear hb cM hg;have GL:w6.cell? ⟨eT,0,none⟩=some (.int .u8 aI):=(af cL.out 0).trans rfl;have GM:w6.cell? ⟨eT,1,none⟩=some (.string bh):=(af cL.out 1).trans rfl;have Qp:w6.cell? ⟨eT,2,none⟩=some (.bool bn):=(af cL.out 2).trans rfl;have Qq:w6.cell? ⟨eT,3,none⟩=some (.slice dn bT.length dw):=(af cL.out 3).trans rfl;have Qr:w6.cell? ⟨eT,4,none⟩=some (.string bz):=(af cL.out 4).trans rfl;have X7:w6.cell? ⟨eT,5,none⟩=some (.string bW):=(af cL.out 5).trans rfl;have X8:w6.cell? ⟨eT,6,none⟩=some (.bool bX):=(af cL.out 6).trans rfl;have X9:w6.cell? ⟨eT,7,none⟩=some (.slice dF bw.length dx):=(af cL.out 7).trans rfl;have GN:=aa cL.out 0;have GP:=aa cL.out 1;have Qs:=aa cL.out 2;have Qt:=aa cL.out 3;have Qu:=aa cL.out 4;have Ya:=aa cL.out 5;have Yb:=aa cL.out 6;have Yc:=aa cL.out 7)|((with_reducible refine aT (f:=38) rfl ?_);refine cC (some 11) rfl rfl Tryz.func38 av rfl #[.int .u8 aI] rfl cY ?_;(with_reducible refine (gH.calls aI lT _ ?bg A2.out).mono ?_);(case bg=>exact aW.below HG.out oH);rintro e w8 ⟨rfl,hb⟩;refine ⟨_,rfl,?_⟩;have bI:=ah.mk (aR (g:=eT) (o:= .cells #[.int .u8 aI,.string bh,.bool bn,.slice dn bT.length dw,.string bz,.string bW,.bool bX,.slice dF bw.length dx] 35 (0,0)) wQ hb);have bP:=ah.mk (az oH hb);clear cL;clear HB;have cL:=bI;have HB:=bP;clear bI bP;(try clear hb);(try clear hb2);(try clear hk);(try clear hi);have rz:w8.cell? ⟨eT,0,none⟩=some (.int .u8 aI):=(af cL.out 0).trans rfl;have rA:w8.cell? ⟨eT,1,none⟩=some (.string bh):=(af cL.out 1).trans rfl;have yY:w8.cell? ⟨eT,2,none⟩=some (.bool bn):=(af cL.out 2).trans rfl;have Bg:w8.cell? ⟨eT,3,none⟩=some (.slice dn bT.length dw):=(af cL.out 3).trans rfl;have Bh:w8.cell? ⟨eT,4,none⟩=some (.string bz):=(af cL.out 4).trans rfl;have Mp:w8.cell? ⟨eT,5,none⟩=some (.string bW):=(af cL.out 5).trans rfl;have Mq:w8.cell? ⟨eT,6,none⟩=some (.bool bX):=(af cL.out 6).trans rfl;have Mr:w8.cell? ⟨eT,7,none⟩=some (.slice dF bw.length dx):=(af cL.out 7).trans rfl;have rB:=aa cL.out 0;have rC:=aa cL.out 1;have yZ:=aa cL.out 2;have Bi:=aa cL.out 3;have Bj:=aa cL.out 4;have Ms:=aa cL.out 5;have Mt:=aa cL.out 6;have Mu:=aa cL.out 7)|((with_reducible refine aT (f:=135) rfl ?_);refine cC (some 14) rfl rfl Tryz.func135 av rfl #[.int .u8 aI] rfl cY ?_;(with_reducible refine (ez.calls aI true _ A3.out).mono ?_);rintro e w' ⟨rfl,⟨nd,rfl⟩⟩;refine ⟨_,rfl,?_⟩))
  (try simp only [Act.put,List.setIfInBounds_toArray,List.set_cons_zero,List.set_cons_succ])
  go_cut [4] (fun v4 wc=>∃ (kq:Nat) (C3:ByteArray),v4= .string C3∧ah (bV.j0 kq lT C3 aI bh bn bT bz bW bX bw=some r)∧ah (kq≤k)∧ah (wc.heap[eT]? =some (.cells #[.int .u8 aI,.string bh,.bool bn,(.slice dn bT.length dw),.string bz,.string bW,.bool bX,(.slice dF bw.length dx)] 35 (0,0)))∧ah (Below w.heap.size w wc))
  case first=>
   have H:=HC5.out
   clear HC5
   by_cases c10:aI=3
   ·rw [if_pos c10] at H
    have oX:(aI == 3)=true:=beq_iff_eq.mpr c10
    have yz:(aI != 3)=false:=bne_eq_false_iff_eq.mpr c10
    clear c10
    (first|rw [oX]|(simp only [cS,cV];rw [oX])|skip)
    have H':=ah.mk H
    clear H
    go_wp2
    go_meet
    case rel=>exact ⟨_,((⟨#[32,70,82,79,77,58]⟩:ByteArray)),dL,H',⟨nB⟩,⟨wQ⟩,⟨oH⟩⟩
   ·rw [if_neg c10] at H
    have oX:(aI == 3)=false:=beq_eq_false_iff_ne.mpr c10
    have yz:(aI != 3)=true:=bne_iff_ne.mpr c10
    (first|rw [oX]|(simp only [cS,cV];rw [oX])|skip)
    have H':=ah.mk H
    clear H
    go_wp2
    go_meet
    case rel=>exact ⟨_,((⟨#[32,84,79,58]⟩:ByteArray)),dL,H',⟨nB⟩,⟨wQ⟩,⟨oH⟩⟩
  case rest=>
   clear HC5
   try clear c1
   try clear p2
   try clear c3
   try clear c4
   try clear c8
   try clear c10
   try clear oX
   try clear yz
   try clear GL
   try clear GM
   try clear Qp
   try clear Qq
   try clear Qr
   try clear X7
   try clear X8
   try clear X9
   try clear rz
   try clear rA
   try clear yY
   try clear Bg
   try clear Bh
   try clear Mp
   try clear Mq
   try clear Mr
   try clear GN
   try clear GP
   try clear Qs
   try clear Qt
   try clear Qu
   try clear Ya
   try clear Yb
   try clear Yc
   try clear rB
   try clear rC
   try clear yZ
   try clear Bi
   try clear Bj
   try clear Ms
   try clear Mt
   try clear Mu
   obtain ⟨kq,C3,rfl,HA,HJ4,cL,HB⟩:=hcut
   cases kq with
   |zero=>exact absurd HA.out (by simp [bV.j0])
   |succ kj4=>
    have H:=HA.out
    clear HA
    simp only [bV.j0] at H
    replace H:=Option.bind_eq_some_iff.mp H
    obtain ⟨⟨E7,aoZ⟩,XT,H⟩:=H
    replace H:(if C3.size + E7.size≤9223372036854775807 then (if lT.size + (C3 ++ E7).size≤9223372036854775807 then (bV.l0 kj4 (lT ++ (C3 ++ E7)) bw (bw.length:Int) 0) else (none)) else (none))=some r:=H
    have A11:=ah.mk XT
    clear XT
    by_cases c12:C3.size + E7.size≤9223372036854775807
    ·rw [if_pos c12] at H
     have Eg:=eq_true c12
     have Nl:decide (C3.size + E7.size≤9223372036854775807)=true:=decide_eq_true c12
     try have agI:(9223372036854775807 < C3.size + E7.size)=False:=eq_false (Nat.not_lt.2 c12)
     by_cases c13:lT.size + (C3 ++ E7).size≤9223372036854775807
     ·rw [if_pos c13] at H
      have G0:=eq_true c13
      have Ny:decide (lT.size + (C3 ++ E7).size≤9223372036854775807)=true:=decide_eq_true c13
      try have acs:(9223372036854775807 < lT.size + (C3 ++ E7).size)=False:=eq_false (Nat.not_lt.2 c13)
      try (have acu:=acs;simp only [ByteArray.size_append] at acu)
      try have aru:(9223372036854775807 < lT.size + (C3.size + E7.size))=False:=acu
      have H':=ah.mk H
      clear H
      have uS:wc.cell? ⟨eT,0,none⟩=some (.int .u8 aI):=(af cL.out 0).trans rfl
      have uT:wc.cell? ⟨eT,1,none⟩=some (.string bh):=(af cL.out 1).trans rfl
      have xh:wc.cell? ⟨eT,2,none⟩=some (.bool bn):=(af cL.out 2).trans rfl
      have xj:wc.cell? ⟨eT,3,none⟩=some (.slice dn bT.length dw):=(af cL.out 3).trans rfl
      have xk:wc.cell? ⟨eT,4,none⟩=some (.string bz):=(af cL.out 4).trans rfl
      have xm:wc.cell? ⟨eT,5,none⟩=some (.string bW):=(af cL.out 5).trans rfl
      have xp:wc.cell? ⟨eT,6,none⟩=some (.bool bX):=(af cL.out 6).trans rfl
      have xq:wc.cell? ⟨eT,7,none⟩=some (.slice dF bw.length dx):=(af cL.out 7).trans rfl
      have uU:=aa cL.out 0
      have uV:=aa cL.out 1
      have xu:=aa cL.out 2
      have xw:=aa cL.out 3
      have xx:=aa cL.out 4
      have xy:=aa cL.out 5
      have xz:=aa cL.out 6
      have xA:=aa cL.out 7
      go_wp2_with (first|((with_reducible refine aT (f:=21) rfl ?_);refine cC (some 31) rfl rfl Tryz.func21 av rfl #[.agg #[.bool bn,.slice dn bT.length dw,.string bz,.string bW,.bool bX]] rfl cY ?_;(with_reducible refine (kf.calls kj4 bn _ _ bT bz bW bX E7 aoZ _ ?bg ?bY ?eI A11.out).mono ?_);(case bg=>repeat (first|exact (Kd.dI kV.out HB.out)|(with_reducible refine Kd.dZ ?_ _)|(with_reducible refine Kd.eo ?_ _)|(with_reducible refine Kd.eZ ?_)));(case bY=>exact kW.out);(case eI=>exact aW.below HG.out oH);rintro e Jj ⟨rfl,hb⟩;refine ⟨_,rfl,?_⟩;have bI:=ah.mk (aR (g:=eT) (o:= .cells #[.int .u8 aI,.string bh,.bool bn,.slice dn bT.length dw,.string bz,.string bW,.bool bX,.slice dF bw.length dx] 35 (0,0)) wQ hb);have bP:=ah.mk (az oH hb);clear cL;clear HB;have cL:=bI;have HB:=bP;clear bI bP;(try clear hb);(try clear hb2);(try clear hk);(try clear hi);have oa:Jj.cell? ⟨eT,0,none⟩=some (.int .u8 aI):=(af cL.out 0).trans rfl;have oc:Jj.cell? ⟨eT,1,none⟩=some (.string bh):=(af cL.out 1).trans rfl;have rJ:Jj.cell? ⟨eT,2,none⟩=some (.bool bn):=(af cL.out 2).trans rfl;have uH:Jj.cell? ⟨eT,3,none⟩=some (.slice dn bT.length dw):=(af cL.out 3).trans rfl;have uI:Jj.cell? ⟨eT,4,none⟩=some (.string bz):=(af cL.out 4).trans rfl;have TZ:Jj.cell? ⟨eT,5,none⟩=some (.string bW):=(af cL.out 5).trans rfl;have T4:Jj.cell? ⟨eT,6,none⟩=some (.bool bX):=(af cL.out 6).trans rfl;have T5:Jj.cell? ⟨eT,7,none⟩=some (.slice dF bw.length dx):=(af cL.out 7).trans rfl;have og:=aa cL.out 0;have om:=aa cL.out 1;have rK:=aa cL.out 2;have uJ:=aa cL.out 3;have uK:=aa cL.out 4;have T6:=aa cL.out 5;have T9:=aa cL.out 6;have Ua:=aa cL.out 7))
      go_loopg [3,42] kj4 (fun kq v3 v42 w'=>∃ (xV:ByteArray) (gF:Int),v3= .string xV∧v42= .int .i64 gF∧ah (bV.l0 kq xV bw (bw.length:Int) gF=some r)∧ah (kq≤kj4)∧ah (w'.heap[eT]? =some (.cells #[.int .u8 aI,.string bh,.bool bn,(.slice dn bT.length dw),.string bz,.string bW,.bool bX,(.slice dF bw.length dx)] 35 (0,0)))∧ah (Below w.heap.size w w'))
      case atStart=>exact ⟨(lT ++ (C3 ++ E7)),(0),dL,dL,H',⟨Nat.le_refl _⟩,⟨wQ⟩,⟨oH⟩⟩
      case round=>
       clear H'
       try clear c1
       try clear c2
       try clear p2
       try clear c3
       try clear c4
       try clear c8
       try clear c10
       try clear oX
       try clear yz
       try clear c12
       try clear Eg
       try clear Nl
       try clear agI
       try clear c13
       try clear G0
       try clear Ny
       try clear acs
       try clear uS
       try clear uT
       try clear xh
       try clear xj
       try clear xk
       try clear xm
       try clear xp
       try clear xq
       try clear oa
       try clear oc
       try clear rJ
       try clear uH
       try clear uI
       try clear TZ
       try clear T4
       try clear T5
       try clear GL
       try clear GM
       try clear Qp
       try clear Qq
       try clear Qr
       try clear X7
       try clear X8
       try clear X9
       try clear rz
       try clear rA
       try clear yY
       try clear Bg
       try clear Bh
       try clear Mp
       try clear Mq
       try clear Mr
       try clear uU
       try clear uV
       try clear xu
       try clear xw
       try clear xx
       try clear xy
       try clear xz
       try clear xA
       try clear og
       try clear om
       try clear rK
       try clear uJ
       try clear uK
       try clear T6
       try clear T9
       try clear Ua
       try clear GN
       try clear GP
       try clear Qs
       try clear Qt
       try clear Qu
       try clear Ya
       try clear Yb
       try clear Yc
       try clear rB
       try clear rC
       try clear yZ
       try clear Bi
       try clear Bj
       try clear Ms
       try clear Mt
       try clear Mu
       try clear p2
       obtain ⟨xV,gF,rfl,rfl,HA,PT,cL,HB⟩:=hrel
       cases gk with
       |zero=>exact absurd HA.out (by simp [bV.l0])
       |succ k2=>
        have H:=HA.out
        clear HA
        simp only [bV.l0] at H
        by_cases c17:gF < (bw.length:Int)
        ·rw [if_pos c17] at H
         have S6:decide (gF < (bw.length:Int))=true:=decide_eq_true c17
         clear c17
         by_cases c18: 0≤gF
         ·rw [if_pos c18] at H
          have agD:decide (0≤gF)=true:=decide_eq_true c18
          clear c18
          by_cases c19:gF < (bw.length:Int)
          ·rw [if_pos c19] at H
           have wF:decide (gF < (bw.length:Int))=true:=decide_eq_true c19
           clear c19
           by_cases c20: 1 + ((cv bw gF).f0).size≤9223372036854775807
           ·rw [if_pos c20] at H
            have Jg:=eq_true c20
            have agG:decide (1 + ((cv bw gF).f0).size≤9223372036854775807)=true:=decide_eq_true c20
            try have acn:(9223372036854775807 < 1 + ((cv bw gF).f0).size)=False:=eq_false (Nat.not_lt.2 c20)
            by_cases c21:xV.size + ((⟨#[32]⟩:ByteArray) ++ ((cv bw gF).f0)).size≤9223372036854775807
            ·rw [if_pos c21] at H
             have R8:=eq_true c21
             have X4:decide (xV.size + ((⟨#[32]⟩:ByteArray) ++ ((cv bw gF).f0)).size≤9223372036854775807)=true:=decide_eq_true c21
             try have TV:(9223372036854775807 < xV.size + ((⟨#[32]⟩:ByteArray) ++ ((cv bw gF).f0)).size)=False:=eq_false (Nat.not_lt.2 c21)
             try (have Oc:=TV;simp only [ByteArray.size_append] at Oc)
             try have agH:(9223372036854775807 < xV.size + (1 + ((cv bw gF).f0).size))=False:=Oc
             obtain ⟨agJ,Yd⟩:∃ b_:Bool,b_=((cv bw gF).f2):=⟨_,rfl⟩
             replace H:(if agJ=true then (if 1 + ((cv bw gF).f1).size≤9223372036854775807 then (if (xV ++ ((⟨#[32]⟩:ByteArray) ++ ((cv bw gF).f0))).size + ((⟨#[61]⟩:ByteArray) ++ ((cv bw gF).f1)).size≤9223372036854775807 then (bV.l0 k2 ((xV ++ ((⟨#[32]⟩:ByteArray) ++ ((cv bw gF).f0))) ++ ((⟨#[61]⟩:ByteArray) ++ ((cv bw gF).f1))) bw (bw.length:Int) (wrap64 (gF + 1))) else (none)) else (none)) else (bV.l0 k2 (xV ++ ((⟨#[32]⟩:ByteArray) ++ ((cv bw gF).f0))) bw (bw.length:Int) (wrap64 (gF + 1))))=some r:=by rw [← Yd] at H;exact H
             have acv:=ah.mk Yd
             clear Yd
             by_cases WR:agJ=true
             ·subst WR
              have H1:(if 1 + ((cv bw gF).f1).size≤9223372036854775807 then (if (xV ++ ((⟨#[32]⟩:ByteArray) ++ ((cv bw gF).f0))).size + ((⟨#[61]⟩:ByteArray) ++ ((cv bw gF).f1)).size≤9223372036854775807 then (bV.l0 k2 ((xV ++ ((⟨#[32]⟩:ByteArray) ++ ((cv bw gF).f0))) ++ ((⟨#[61]⟩:ByteArray) ++ ((cv bw gF).f1))) bw (bw.length:Int) (wrap64 (gF + 1))) else (none)) else (none))=some r:=by rw [if_pos rfl] at H;exact H
              clear H
              have H:=H1
              clear H1
              by_cases c24: 1 + ((cv bw gF).f1).size≤9223372036854775807
              ·rw [if_pos c24] at H
               have M5:=eq_true c24
               have abQ:decide (1 + ((cv bw gF).f1).size≤9223372036854775807)=true:=decide_eq_true c24
               try have arv:(9223372036854775807 < 1 + ((cv bw gF).f1).size)=False:=eq_false (Nat.not_lt.2 c24)
               by_cases G5:(xV ++ ((⟨#[32]⟩:ByteArray) ++ ((cv bw gF).f0))).size + ((⟨#[61]⟩:ByteArray) ++ ((cv bw gF).f1)).size≤9223372036854775807
               ·rw [if_pos G5] at H
                have zh:=eq_true G5
                have Ub:decide ((xV ++ ((⟨#[32]⟩:ByteArray) ++ ((cv bw gF).f0))).size + ((⟨#[61]⟩:ByteArray) ++ ((cv bw gF).f1)).size≤9223372036854775807)=true:=decide_eq_true G5
                try have agK:(9223372036854775807 < (xV ++ ((⟨#[32]⟩:ByteArray) ++ ((cv bw gF).f0))).size + ((⟨#[61]⟩:ByteArray) ++ ((cv bw gF).f1)).size)=False:=eq_false (Nat.not_lt.2 G5)
                try (have acw:=agK;simp only [ByteArray.size_append] at acw)
                try have arw:(9223372036854775807 < (xV.size + (1 + ((cv bw gF).f0).size)) + (1 + ((cv bw gF).f1).size))=False:=acw
                have H':=ah.mk H
                clear H
                have Qz: 0≤(gF:Int):=of_decide_eq_true cO
                have QA:gF < (bw.length:Int):=of_decide_eq_true cO
                obtain ⟨MS,aed,xW,xX,tH⟩:=vY lS.out gF Qz QA
                (try rw [← acv.out] at tH)
                cases aed
                replace xW:=(HB.out.cell (World.block_lt_of_cell? w _ xW)).trans xW
                replace xX:=(HB.out.cell (World.block_lt_of_cell? w _ xX)).trans xX
                replace tH:=(HB.out.cell (World.block_lt_of_cell? w _ tH)).trans tH
                replace Qz:=eq_true Qz
                replace QA:=eq_true QA
                go_wp2_with (first|((with_reducible refine cK (N:=8) rfl ?_);refine cu ?hg (N:=8) ?hd (cs:=#[.string (⟨#[]⟩:ByteArray),.string (⟨#[]⟩:ByteArray),.bool false]) (t:=58) ?hr ?_;(case hd=>rfl);(case hg=>rfl);(case hr=>first|(go_simp;done)|(go_simp;rfl));intro uj hg BF cM hb;have bI:=ah.mk (aR (g:=eT) (o:= .cells #[.int .u8 aI,.string bh,.bool bn,.slice dn bT.length dw,.string bz,.string bW,.bool bX,.slice (some MS) bw.length dx] 35 (0,0)) wQ hb);have bP:=ah.mk (az oH hb);have cw:=ah.mk (cM);have cW:=ah.mk ((JT:w.heap.size≤uj));have jc:=ah.mk ((JT:w.heap.size≤uj));have nv:=ah.mk ((Ro:eT≠uj));have nI:=ah.mk ((Rp:uj≠eT));clear cL;clear HB;have cL:=bI;have HB:=bP;have wG:=cw;have agL:=cW;have abG:=jc;have tK:=nv;have DA:=nI;clear bI bP cw cW jc nv nI;clear hb cM hg;have abU:=DA.out;have abV:=tK.out;have Fx:BF.cell? ⟨uj,0,none⟩=some (.string (⟨#[]⟩:ByteArray)):=(af wG.out 0).trans rfl;have Fy:BF.cell? ⟨uj,1,none⟩=some (.string (⟨#[]⟩:ByteArray)):=(af wG.out 1).trans rfl;have Fz:BF.cell? ⟨uj,2,none⟩=some (.bool false):=(af wG.out 2).trans rfl;have FA:=aa wG.out 0;have FB:=aa wG.out 1;have FC:=aa wG.out 2))
                go_roundg k2
                case measure=>have:=HJ4.out;have:=PT.out;omega
                case rel=>exact ⟨((xV ++ ((⟨#[32]⟩:ByteArray) ++ ((cv bw gF).f0))) ++ ((⟨#[61]⟩:ByteArray) ++ ((cv bw gF).f1))),(wrap64 (gF + 1)),dL,dL,H',⟨by have:=HJ4.out;have:=PT.out;omega⟩,⟨Wu⟩,⟨Ry⟩⟩
               ·rw [if_neg G5] at H
                exact absurd H bf
              ·rw [if_neg c24] at H
               exact absurd H bf
             ·replace WR:=Bool.eq_false_iff.mpr WR
              subst WR
              have H1:(bV.l0 k2 (xV ++ ((⟨#[32]⟩:ByteArray) ++ ((cv bw gF).f0))) bw (bw.length:Int) (wrap64 (gF + 1)))=some r:=by rw [if_neg (show ¬ (false=true) by decide)] at H;exact H
              clear H
              have H:=H1
              clear H1
              have H':=ah.mk H
              clear H
              have Qz: 0≤(gF:Int):=of_decide_eq_true cO
              have QA:gF < (bw.length:Int):=of_decide_eq_true cO
              obtain ⟨MS,aed,xW,xX,tH⟩:=vY lS.out gF Qz QA
              (try rw [← acv.out] at tH)
              cases aed
              replace xW:=(HB.out.cell (World.block_lt_of_cell? w _ xW)).trans xW
              replace xX:=(HB.out.cell (World.block_lt_of_cell? w _ xX)).trans xX
              replace tH:=(HB.out.cell (World.block_lt_of_cell? w _ tH)).trans tH
              replace Qz:=eq_true Qz
              replace QA:=eq_true QA
              go_wp2_with (first|((with_reducible refine cK (N:=8) rfl ?_);refine cu ?hg (N:=8) ?hd (cs:=#[.string (⟨#[]⟩:ByteArray),.string (⟨#[]⟩:ByteArray),.bool false]) (t:=58) ?hr ?_;(case hd=>rfl);(case hg=>rfl);(case hr=>first|(go_simp;done)|(go_simp;rfl));intro uj hg w29 cM hb;have bI:=ah.mk (aR (g:=eT) (o:= .cells #[.int .u8 aI,.string bh,.bool bn,.slice dn bT.length dw,.string bz,.string bW,.bool bX,.slice (some MS) bw.length dx] 35 (0,0)) wQ hb);have bP:=ah.mk (az oH hb);have cw:=ah.mk (cM);have cW:=ah.mk ((JT:w.heap.size≤uj));have jc:=ah.mk ((JT:w.heap.size≤uj));have nv:=ah.mk ((Ro:eT≠uj));have nI:=ah.mk ((Rp:uj≠eT));clear cL;clear HB;have cL:=bI;have HB:=bP;have wG:=cw;have agL:=cW;have abG:=jc;have tK:=nv;have DA:=nI;clear bI bP cw cW jc nv nI;clear hb cM hg;have ab5:=DA.out;have ab6:=tK.out;have vN:w29.cell? ⟨uj,0,none⟩=some (.string (⟨#[]⟩:ByteArray)):=(af wG.out 0).trans rfl;have vO:w29.cell? ⟨uj,1,none⟩=some (.string (⟨#[]⟩:ByteArray)):=(af wG.out 1).trans rfl;have xP:w29.cell? ⟨uj,2,none⟩=some (.bool false):=(af wG.out 2).trans rfl;have vP:=aa wG.out 0;have vQ:=aa wG.out 1;have xQ:=aa wG.out 2))
              go_roundg k2
              case measure=>have:=HJ4.out;have:=PT.out;omega
              case rel=>exact ⟨(xV ++ ((⟨#[32]⟩:ByteArray) ++ ((cv bw gF).f0))),(wrap64 (gF + 1)),dL,dL,H',⟨by have:=HJ4.out;have:=PT.out;omega⟩,⟨Wu⟩,⟨Ry⟩⟩
            ·rw [if_neg c21] at H
             exact absurd H bf
           ·rw [if_neg c20] at H
            exact absurd H bf
          ·rw [if_neg c19] at H
           exact absurd H bf
         ·rw [if_neg c18] at H
          exact absurd H bf
        ·rw [if_neg c17] at H
         have S6:decide (gF < (bw.length:Int))=false:=decide_eq_false c17
         clear c17
         obtain rfl:=Option.some.inj H
         go_wp2
         go_ret
         exact ⟨cU,oH⟩
     ·rw [if_neg c13] at H
      exact absurd H bf
    ·rw [if_neg c12] at H
     exact absurd H bf
 ·replace c4:=Bool.eq_false_iff.mpr c4
  subst c4
  have H1:(if bh.toList=([]:List UInt8) then (some lT) else (if 1 + bh.size≤9223372036854775807 then (if lT.size + ((⟨#[32]⟩:ByteArray) ++ bh).size≤9223372036854775807 then (some (lT ++ ((⟨#[32]⟩:ByteArray) ++ bh))) else (none)) else (none)))=some r:=by rw [if_neg (show ¬ (false=true) by decide)] at H;exact H
  clear H
  have H:=H1
  clear H1
  by_cases IK:bh.toList=([]:List UInt8)
  ·rw [if_pos IK] at H
   have Nc:(bh.toList == ([]:List UInt8))=true:=beq_iff_eq.mpr IK
   have TF:(bh.toList != ([]:List UInt8))=false:=bne_eq_false_iff_eq.mpr IK
   clear IK
   obtain rfl:=Option.some.inj H
   go_enter Tryz.func89,Tryz.ntmps89
   go_wp2_with (first|((with_reducible refine cK (N:=1) rfl ?_);refine cu ?hg (N:=1) ?hd (cs:=#[.int .u8 aI,.string bh,.bool bn,.slice dn bT.length dw,.string bz,.string bW,.bool bX,.slice dF bw.length dx]) (t:=35) ?hr ?_;(case hd=>rfl);(case hg=>rfl);(case hr=>first|(go_simp;done)|(go_simp;rfl));intro eT hg FJ cM hb;have bI:=ah.mk (az cA hb);have bP:=ah.mk (cM);have cw:=ah.mk ((dW:w.heap.size≤eT));have cW:=ah.mk ((dW:w.heap.size≤eT));clear HB;have HB:=bI;have cL:=bP;have acr:=cw;have MK:=cW;clear bI bP cw cW;clear hb cM hg;have CN:FJ.cell? ⟨eT,0,none⟩=some (.int .u8 aI):=(af cL.out 0).trans rfl;have CO:FJ.cell? ⟨eT,1,none⟩=some (.string bh):=(af cL.out 1).trans rfl;have CP:FJ.cell? ⟨eT,2,none⟩=some (.bool bn):=(af cL.out 2).trans rfl;have Ml:FJ.cell? ⟨eT,3,none⟩=some (.slice dn bT.length dw):=(af cL.out 3).trans rfl;have Mm:FJ.cell? ⟨eT,4,none⟩=some (.string bz):=(af cL.out 4).trans rfl;have Uc:FJ.cell? ⟨eT,5,none⟩=some (.string bW):=(af cL.out 5).trans rfl;have Ud:FJ.cell? ⟨eT,6,none⟩=some (.bool bX):=(af cL.out 6).trans rfl;have Ue:FJ.cell? ⟨eT,7,none⟩=some (.slice dF bw.length dx):=(af cL.out 7).trans rfl;have CQ:=aa cL.out 0;have CR:=aa cL.out 1;have CS:=aa cL.out 2;have Mn:=aa cL.out 3;have Mo:=aa cL.out 4;have Uf:=aa cL.out 5;have Ug:=aa cL.out 6;have Uh:=aa cL.out 7)|((with_reducible refine aT (f:=38) rfl ?_);refine cC (some 11) rfl rfl Tryz.func38 av rfl #[.int .u8 aI] rfl cY ?_;(with_reducible refine (gH.calls aI lT _ ?bg A2.out).mono ?_);(case bg=>exact aW.below HG.out oH);rintro e TW ⟨rfl,hb⟩;refine ⟨_,rfl,?_⟩;have bI:=ah.mk (aR (g:=eT) (o:= .cells #[.int .u8 aI,.string bh,.bool bn,.slice dn bT.length dw,.string bz,.string bW,.bool bX,.slice dF bw.length dx] 35 (0,0)) wQ hb);have bP:=ah.mk (az oH hb);clear cL;clear HB;have cL:=bI;have HB:=bP;clear bI bP;(try clear hb);(try clear hb2);(try clear hk);(try clear hi);have Cw:TW.cell? ⟨eT,0,none⟩=some (.int .u8 aI):=(af cL.out 0).trans rfl;have Cx:TW.cell? ⟨eT,1,none⟩=some (.string bh):=(af cL.out 1).trans rfl;have Cy:TW.cell? ⟨eT,2,none⟩=some (.bool bn):=(af cL.out 2).trans rfl;have SX:TW.cell? ⟨eT,3,none⟩=some (.slice dn bT.length dw):=(af cL.out 3).trans rfl;have SY:TW.cell? ⟨eT,4,none⟩=some (.string bz):=(af cL.out 4).trans rfl;have ZL:TW.cell? ⟨eT,5,none⟩=some (.string bW):=(af cL.out 5).trans rfl;have ZM:TW.cell? ⟨eT,6,none⟩=some (.bool bX):=(af cL.out 6).trans rfl;have ZN:TW.cell? ⟨eT,7,none⟩=some (.slice dF bw.length dx):=(af cL.out 7).trans rfl;have Cz:=aa cL.out 0;have CC:=aa cL.out 1;have CD:=aa cL.out 2;have SZ:=aa cL.out 3;have S0:=aa cL.out 4;have ZO:=aa cL.out 5;have ZP:=aa cL.out 6;have ZQ:=aa cL.out 7)|((with_reducible refine aT (f:=135) rfl ?_);refine cC (some 14) rfl rfl Tryz.func135 av rfl #[.int .u8 aI] rfl cY ?_;(with_reducible refine (ez.calls aI false _ A3.out).mono ?_);rintro e w' ⟨rfl,⟨nd,rfl⟩⟩;refine ⟨_,rfl,?_⟩))
   go_ret
   exact ⟨cU,oH⟩
  ·rw [if_neg IK] at H
   have Nc:(bh.toList == ([]:List UInt8))=false:=beq_eq_false_iff_ne.mpr IK
   have TF:(bh.toList != ([]:List UInt8))=true:=bne_iff_ne.mpr IK
   by_cases c37: 1 + bh.size≤9223372036854775807
   ·rw [if_pos c37] at H
    have ab2:=eq_true c37
    have afT:decide (1 + bh.size≤9223372036854775807)=true:=decide_eq_true c37
    try have arx:(9223372036854775807 < 1 + bh.size)=False:=eq_false (Nat.not_lt.2 c37)
    by_cases MI:lT.size + ((⟨#[32]⟩:ByteArray) ++ bh).size≤9223372036854775807
    ·rw [if_pos MI] at H
     have XK:=eq_true MI
     have agM:decide (lT.size + ((⟨#[32]⟩:ByteArray) ++ bh).size≤9223372036854775807)=true:=decide_eq_true MI
     try have acy:(9223372036854775807 < lT.size + ((⟨#[32]⟩:ByteArray) ++ bh).size)=False:=eq_false (Nat.not_lt.2 MI)
     try (have acz:=acy;simp only [ByteArray.size_append] at acz)
     try have ary:(9223372036854775807 < lT.size + (1 + bh.size))=False:=acz
     obtain rfl:=Option.some.inj H
     go_enter Tryz.func89,Tryz.ntmps89
     go_wp2_with (first|((with_reducible refine cK (N:=1) rfl ?_);refine cu ?hg (N:=1) ?hd (cs:=#[.int .u8 aI,.string bh,.bool bn,.slice dn bT.length dw,.string bz,.string bW,.bool bX,.slice dF bw.length dx]) (t:=35) ?hr ?_;(case hd=>rfl);(case hg=>rfl);(case hr=>first|(go_simp;done)|(go_simp;rfl));intro eT hg w39 cM hb;have bI:=ah.mk (az cA hb);have bP:=ah.mk (cM);have cw:=ah.mk ((dW:w.heap.size≤eT));have cW:=ah.mk ((dW:w.heap.size≤eT));clear HB;have HB:=bI;have cL:=bP;have acr:=cw;have MK:=cW;clear bI bP cw cW;clear hb cM hg;have Tp:w39.cell? ⟨eT,0,none⟩=some (.int .u8 aI):=(af cL.out 0).trans rfl;have Tq:w39.cell? ⟨eT,1,none⟩=some (.string bh):=(af cL.out 1).trans rfl;have Tt:w39.cell? ⟨eT,2,none⟩=some (.bool bn):=(af cL.out 2).trans rfl;have Tu:w39.cell? ⟨eT,3,none⟩=some (.slice dn bT.length dw):=(af cL.out 3).trans rfl;have Tv:w39.cell? ⟨eT,4,none⟩=some (.string bz):=(af cL.out 4).trans rfl;have aba:w39.cell? ⟨eT,5,none⟩=some (.string bW):=(af cL.out 5).trans rfl;have abb:w39.cell? ⟨eT,6,none⟩=some (.bool bX):=(af cL.out 6).trans rfl;have abc:w39.cell? ⟨eT,7,none⟩=some (.slice dF bw.length dx):=(af cL.out 7).trans rfl;have Tw:=aa cL.out 0;have Tx:=aa cL.out 1;have Ty:=aa cL.out 2;have Tz:=aa cL.out 3;have TA:=aa cL.out 4;have abd:=aa cL.out 5;have abe:=aa cL.out 6;have abf:=aa cL.out 7)|((with_reducible refine aT (f:=38) rfl ?_);refine cC (some 11) rfl rfl Tryz.func38 av rfl #[.int .u8 aI] rfl cY ?_;(with_reducible refine (gH.calls aI lT _ ?bg A2.out).mono ?_);(case bg=>exact aW.below HG.out oH);rintro e TB ⟨rfl,hb⟩;refine ⟨_,rfl,?_⟩;have bI:=ah.mk (aR (g:=eT) (o:= .cells #[.int .u8 aI,.string bh,.bool bn,.slice dn bT.length dw,.string bz,.string bW,.bool bX,.slice dF bw.length dx] 35 (0,0)) wQ hb);have bP:=ah.mk (az oH hb);clear cL;clear HB;have cL:=bI;have HB:=bP;clear bI bP;(try clear hb);(try clear hb2);(try clear hk);(try clear hi);have aak:TB.cell? ⟨eT,0,none⟩=some (.int .u8 aI):=(af cL.out 0).trans rfl;have aal:TB.cell? ⟨eT,1,none⟩=some (.string bh):=(af cL.out 1).trans rfl;have aam:TB.cell? ⟨eT,2,none⟩=some (.bool bn):=(af cL.out 2).trans rfl;have aan:TB.cell? ⟨eT,3,none⟩=some (.slice dn bT.length dw):=(af cL.out 3).trans rfl;have aao:TB.cell? ⟨eT,4,none⟩=some (.string bz):=(af cL.out 4).trans rfl;have ak3:TB.cell? ⟨eT,5,none⟩=some (.string bW):=(af cL.out 5).trans rfl;have ak4:TB.cell? ⟨eT,6,none⟩=some (.bool bX):=(af cL.out 6).trans rfl;have ak5:TB.cell? ⟨eT,7,none⟩=some (.slice dF bw.length dx):=(af cL.out 7).trans rfl;have aap:=aa cL.out 0;have aaq:=aa cL.out 1;have aar:=aa cL.out 2;have aas:=aa cL.out 3;have aat:=aa cL.out 4;have ak6:=aa cL.out 5;have ak7:=aa cL.out 6;have ak8:=aa cL.out 7)|((with_reducible refine aT (f:=135) rfl ?_);refine cC (some 14) rfl rfl Tryz.func135 av rfl #[.int .u8 aI] rfl cY ?_;(with_reducible refine (ez.calls aI false _ A3.out).mono ?_);rintro e w' ⟨rfl,⟨nd,rfl⟩⟩;refine ⟨_,rfl,?_⟩))
     go_ret
     exact ⟨cU,oH⟩
    ·rw [if_neg MI] at H
     exact absurd H bf
   ·rw [if_neg c37] at H
    exact absurd H bf
def jz.f (k:Nat) (aI:ByteArray) (bh:ByteArray) (bn:Bool):Option (Bool):=(bN.f k aI bh bn).bind fun Vc=>(some (!Vc))
theorem jz.calls (k:Nat) (aI:ByteArray) (bh:ByteArray) (bn:Bool) (r:Bool) (w:World) (h:jz.f k aI bh bn=some r):
 Calls Tryz.prog 137 #[.agg #[.string aI,.string bh,.bool bn]] w fun e w'=>e= .returned (.bool r)∧Below w.heap.size w w':=by
 have UR:=Tryz.underlying58
 have HB:=ah.mk (Below.refl w.heap.size w)
 have H:((bN.f k aI bh bn).bind fun Vc=>(some (!Vc)))=some r:=h
 clear h
 replace H:=Option.bind_eq_some_iff.mp H
 obtain ⟨Vc,oL,H⟩:=H
 replace H:(some (!Vc))=some r:=H
 have A2:=ah.mk oL
 clear oL
 obtain rfl:=Option.some.inj H
 go_enter Tryz.func137,Tryz.ntmps137
 go_wp2_with (first|((with_reducible refine cK (N:=1) rfl ?_);refine cu ?hg (N:=1) ?hd (cs:=#[.string aI,.string bh,.bool bn]) (t:=58) ?hr ?_;(case hd=>rfl);(case hg=>rfl);(case hr=>first|(go_simp;done)|(go_simp;rfl));intro Jo hg w3 cM hb;have bI:=ah.mk (az cA hb);have bP:=ah.mk (cM);have cw:=ah.mk ((dW:w.heap.size≤Jo));have cW:=ah.mk ((dW:w.heap.size≤Jo));clear HB;have HB:=bI;have C4:=bP;have arz:=cw;have afb:=cW;clear bI bP cw cW;clear hb cM hg;have ao0:w3.cell? ⟨Jo,0,none⟩=some (.string aI):=(af C4.out 0).trans rfl;have ao1:w3.cell? ⟨Jo,1,none⟩=some (.string bh):=(af C4.out 1).trans rfl;have ao2:w3.cell? ⟨Jo,2,none⟩=some (.bool bn):=(af C4.out 2).trans rfl;have ao3:=aa C4.out 0;have ao4:=aa C4.out 1;have ao5:=aa C4.out 2)|((with_reducible refine aT (f:=138) rfl ?_);refine cC (some 4) rfl rfl Tryz.func138 av rfl #[.agg #[.string aI,.string bh,.bool bn]] rfl cY ?_;(with_reducible refine (bN.calls k aI bh bn Vc _ A2.out).mono ?_);rintro e w5 ⟨rfl,hb⟩;refine ⟨_,rfl,?_⟩;have bI:=ah.mk (aR (g:=Jo) (o:= .cells #[.string aI,.string bh,.bool bn] 58 (0,0)) (by (with_reducible repeat (first|refine aK ?_ _|refine aV ?_|refine aJ ?_ _));exact C4.out) hb);have bP:=ah.mk (az RD hb);clear C4;clear HB;have C4:=bI;have HB:=bP;clear bI bP;(try clear hb);(try clear hb2);(try clear hk);(try clear hi)))
 go_ret
 exact ⟨cU,RD⟩
end Go.Proofs.YtokpnfljjjjikaaGreatDoor.n9
