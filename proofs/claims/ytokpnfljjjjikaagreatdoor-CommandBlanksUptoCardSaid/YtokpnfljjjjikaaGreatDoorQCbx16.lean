import Derived.Test.YtokpnfljjjjikaaGreatDoorQCbx15
import Derived.Test.YtokpnfljjjjikaaGreatDoorEBox
import Derived.Test.YtokpnfljjjjikaaGreatDoorEJoin
set_option maxHeartbeats 8000000
set_option maxRecDepth 100000
namespace Go.Proofs.YtokpnfljjjjikaaGreatDoor.nK
open Go.RowKit Go.Proofs.aj.bQ Go.Proofs.aj.fR Go.Proofs.aj.cM
attribute [local go_sem] iY iZ ku kA ig ij jc jd
set_option linter.unusedVariables false
set_option linter.unusedSimpArgs false
def kI.f (k:Nat) (aI:Bool) (dD:List ByteArray) (bp:ByteArray) (dY:ByteArray) (bC:Bool):Option (ByteArray×Int):=(fy.f k aI dD bp dY bC).bind fun S7=>(if S7=true then (if aI=true then (some ((⟨#[60,62]⟩:ByteArray),0)) else (if dY.toList=([]:List UInt8) then (some ((⟨#[60,112,111,115,116,109,97,115,116,101,114,62]⟩:ByteArray),0)) else ((gZ.f k bp dY bC).bind fun gS=>(if (dD.length:Int) > 0 then ((strings_Join.f dD (⟨#[44,64]⟩:ByteArray)).bind fun iA=>(if 1 + iA.size≤9223372036854775807 then (if ((⟨#[64]⟩:ByteArray) ++ iA).size + 1≤9223372036854775807 then (if (((⟨#[64]⟩:ByteArray) ++ iA) ++ (⟨#[58]⟩:ByteArray)).size + gS.1.size≤9223372036854775807 then (if 1 + ((((⟨#[64]⟩:ByteArray) ++ iA) ++ (⟨#[58]⟩:ByteArray)) ++ gS.1).size≤9223372036854775807 then (if ((⟨#[60]⟩:ByteArray) ++ ((((⟨#[64]⟩:ByteArray) ++ iA) ++ (⟨#[58]⟩:ByteArray)) ++ gS.1)).size + 1≤9223372036854775807 then (some (((⟨#[60]⟩:ByteArray) ++ ((((⟨#[64]⟩:ByteArray) ++ iA) ++ (⟨#[58]⟩:ByteArray)) ++ gS.1)) ++ (⟨#[62]⟩:ByteArray),gS.2)) else (none)) else (none)) else (none)) else (none)) else (none))) else (if 1 + gS.1.size≤9223372036854775807 then (if ((⟨#[60]⟩:ByteArray) ++ gS.1).size + 1≤9223372036854775807 then (some (((⟨#[60]⟩:ByteArray) ++ gS.1) ++ (⟨#[62]⟩:ByteArray),gS.2)) else (none)) else (none)))))) else (some ((⟨#[]⟩:ByteArray),150)))
theorem kI.calls (k:Nat) (aI:Bool) (gW:Option Addr) (gX:Nat) (dD:List ByteArray) (bp:ByteArray) (dY:ByteArray) (bC:Bool) (r1:ByteArray) (r2:Int) (w:World) (CF:Kd.C Kd.string w gW dD.length dD) (CG:dD.length≤gX) (hG:aQ w) (h:kI.f k aI dD bp dY bC=some (r1,r2)):
 Calls Tryz.prog 21 #[.agg #[.bool aI,.slice gW dD.length gX,.string bp,.string dY,.bool bC]] w fun e w'=>e= .returned (.tuple #[.string r1,.int .i64 r2])∧Below w.heap.size w w':=by
 have Oc:=Tryz.underlying32
 have LR:=Tryz.underlying30
 have wR:=ah.mk CF
 have Ac:=ah.mk CG
 clear CF CG
 have HB:=ah.mk (Below.refl w.heap.size w)
 have HG:=ah.mk hG
 clear hG
 have H:((fy.f k aI dD bp dY bC).bind fun S7=>(if S7=true then (if aI=true then (some ((⟨#[60,62]⟩:ByteArray),0)) else (if dY.toList=([]:List UInt8) then (some ((⟨#[60,112,111,115,116,109,97,115,116,101,114,62]⟩:ByteArray),0)) else ((gZ.f k bp dY bC).bind fun gS=>(if (dD.length:Int) > 0 then ((strings_Join.f dD (⟨#[44,64]⟩:ByteArray)).bind fun iA=>(if 1 + iA.size≤9223372036854775807 then (if ((⟨#[64]⟩:ByteArray) ++ iA).size + 1≤9223372036854775807 then (if (((⟨#[64]⟩:ByteArray) ++ iA) ++ (⟨#[58]⟩:ByteArray)).size + gS.1.size≤9223372036854775807 then (if 1 + ((((⟨#[64]⟩:ByteArray) ++ iA) ++ (⟨#[58]⟩:ByteArray)) ++ gS.1).size≤9223372036854775807 then (if ((⟨#[60]⟩:ByteArray) ++ ((((⟨#[64]⟩:ByteArray) ++ iA) ++ (⟨#[58]⟩:ByteArray)) ++ gS.1)).size + 1≤9223372036854775807 then (some (((⟨#[60]⟩:ByteArray) ++ ((((⟨#[64]⟩:ByteArray) ++ iA) ++ (⟨#[58]⟩:ByteArray)) ++ gS.1)) ++ (⟨#[62]⟩:ByteArray),gS.2)) else (none)) else (none)) else (none)) else (none)) else (none))) else (if 1 + gS.1.size≤9223372036854775807 then (if ((⟨#[60]⟩:ByteArray) ++ gS.1).size + 1≤9223372036854775807 then (some (((⟨#[60]⟩:ByteArray) ++ gS.1) ++ (⟨#[62]⟩:ByteArray),gS.2)) else (none)) else (none)))))) else (some ((⟨#[]⟩:ByteArray),150))))=some (r1,r2):=h
 clear h
 replace H:=Option.bind_eq_some_iff.mp H
 obtain ⟨S7,nr,H⟩:=H
 replace H:(if S7=true then (if aI=true then (some ((⟨#[60,62]⟩:ByteArray),0)) else (if dY.toList=([]:List UInt8) then (some ((⟨#[60,112,111,115,116,109,97,115,116,101,114,62]⟩:ByteArray),0)) else ((gZ.f k bp dY bC).bind fun gS=>(if (dD.length:Int) > 0 then ((strings_Join.f dD (⟨#[44,64]⟩:ByteArray)).bind fun iA=>(if 1 + iA.size≤9223372036854775807 then (if ((⟨#[64]⟩:ByteArray) ++ iA).size + 1≤9223372036854775807 then (if (((⟨#[64]⟩:ByteArray) ++ iA) ++ (⟨#[58]⟩:ByteArray)).size + gS.1.size≤9223372036854775807 then (if 1 + ((((⟨#[64]⟩:ByteArray) ++ iA) ++ (⟨#[58]⟩:ByteArray)) ++ gS.1).size≤9223372036854775807 then (if ((⟨#[60]⟩:ByteArray) ++ ((((⟨#[64]⟩:ByteArray) ++ iA) ++ (⟨#[58]⟩:ByteArray)) ++ gS.1)).size + 1≤9223372036854775807 then (some (((⟨#[60]⟩:ByteArray) ++ ((((⟨#[64]⟩:ByteArray) ++ iA) ++ (⟨#[58]⟩:ByteArray)) ++ gS.1)) ++ (⟨#[62]⟩:ByteArray),gS.2)) else (none)) else (none)) else (none)) else (none)) else (none))) else (if 1 + gS.1.size≤9223372036854775807 then (if ((⟨#[60]⟩:ByteArray) ++ gS.1).size + 1≤9223372036854775807 then (some (((⟨#[60]⟩:ByteArray) ++ gS.1) ++ (⟨#[62]⟩:ByteArray),gS.2)) else (none)) else (none)))))) else (some ((⟨#[]⟩:ByteArray),150)))=some (r1,r2):=H
 have A2:=ah.mk nr
 clear nr
 by_cases c3:S7=true
 ·subst c3
  have H1:(if aI=true then (some ((⟨#[60,62]⟩:ByteArray),0)) else (if dY.toList=([]:List UInt8) then (some ((⟨#[60,112,111,115,116,109,97,115,116,101,114,62]⟩:ByteArray),0)) else ((gZ.f k bp dY bC).bind fun gS=>(if (dD.length:Int) > 0 then ((strings_Join.f dD (⟨#[44,64]⟩:ByteArray)).bind fun iA=>(if 1 + iA.size≤9223372036854775807 then (if ((⟨#[64]⟩:ByteArray) ++ iA).size + 1≤9223372036854775807 then (if (((⟨#[64]⟩:ByteArray) ++ iA) ++ (⟨#[58]⟩:ByteArray)).size + gS.1.size≤9223372036854775807 then (if 1 + ((((⟨#[64]⟩:ByteArray) ++ iA) ++ (⟨#[58]⟩:ByteArray)) ++ gS.1).size≤9223372036854775807 then (if ((⟨#[60]⟩:ByteArray) ++ ((((⟨#[64]⟩:ByteArray) ++ iA) ++ (⟨#[58]⟩:ByteArray)) ++ gS.1)).size + 1≤9223372036854775807 then (some (((⟨#[60]⟩:ByteArray) ++ ((((⟨#[64]⟩:ByteArray) ++ iA) ++ (⟨#[58]⟩:ByteArray)) ++ gS.1)) ++ (⟨#[62]⟩:ByteArray),gS.2)) else (none)) else (none)) else (none)) else (none)) else (none))) else (if 1 + gS.1.size≤9223372036854775807 then (if ((⟨#[60]⟩:ByteArray) ++ gS.1).size + 1≤9223372036854775807 then (some (((⟨#[60]⟩:ByteArray) ++ gS.1) ++ (⟨#[62]⟩:ByteArray),gS.2)) else (none)) else (none))))))=some (r1,r2):=by rw [if_pos rfl] at H;exact H
  clear H
  have H:=H1
  clear H1
  by_cases c4:aI=true
  ·subst c4
   have H1:(some ((⟨#[60,62]⟩:ByteArray),0))=some (r1,r2):=by rw [if_pos rfl] at H;exact H
   clear H
   have H:=H1
   clear H1
   simp only [Option.some.injEq,Prod.mk.injEq] at H
   obtain ⟨rfl,rfl⟩:=H
   go_enter Tryz.func21,Tryz.ntmps21
   go_wp2_with (first|((with_reducible refine cQ (N:=1) rfl ?_);refine cE ?hg (N:=1) ?hd (cs:=#[.bool true,.slice gW dD.length gX,.string bp,.string dY,.bool bC]) (t:=32) ?hr ?_;(case hd=>rfl);(case hg=>rfl);(case hr=>first|(go_simp;done)|(go_simp;rfl));intro eW hg w5 cY hb;have bL:=ah.mk (aC cw hb);have bS:=ah.mk (cY);have cG:=ah.mk ((dQ:w.heap.size≤eW));have dA:=ah.mk ((dQ:w.heap.size≤eW));clear HB;have HB:=bL;have cP:=bS;have RR:=cG;have Lj:=dA;clear bL bS cG dA;clear hb cY hg;have UX:w5.cell? ⟨eW,0,none⟩=some (.bool true):=(af cP.out 0).trans rfl;have UY:w5.cell? ⟨eW,1,none⟩=some (.slice gW dD.length gX):=(af cP.out 1).trans rfl;have abG:w5.cell? ⟨eW,2,none⟩=some (.string bp):=(af cP.out 2).trans rfl;have abH:w5.cell? ⟨eW,3,none⟩=some (.string dY):=(af cP.out 3).trans rfl;have abI:w5.cell? ⟨eW,4,none⟩=some (.bool bC):=(af cP.out 4).trans rfl;have UZ:=aa cP.out 0;have U0:=aa cP.out 1;have abJ:=aa cP.out 2;have abK:=aa cP.out 3;have abL:=aa cP.out 4)|((with_reducible refine aU (f:=20) rfl ?_);refine cB (some 8) rfl rfl Tryz.func20 av rfl #[.agg #[.bool true,.slice gW dD.length gX,.string bp,.string dY,.bool bC]] rfl cX ?_;(with_reducible refine (fy.calls k true _ _ dD bp dY bC true _ ?aW ?bY ?eO A2.out).mono ?_);(case aW=>repeat (first|exact (Kd.eF wR.out HB.out)|(with_reducible refine Kd.dZ ?_ _)|(with_reducible refine Kd.eo ?_ _)|(with_reducible refine Kd.eZ ?_)));(case bY=>exact Ac.out);(case eO=>exact aQ.below HG.out lC);rintro e w7 ⟨rfl,hb⟩;refine ⟨_,rfl,?_⟩;have bL:=ah.mk (aX (g:=eW) (o:= .cells #[.bool true,.slice gW dD.length gX,.string bp,.string dY,.bool bC] 32 (0,0)) wE hb);have bS:=ah.mk (aC lC hb);clear cP;clear HB;have cP:=bL;have HB:=bS;clear bL bS;(try clear hb);(try clear hb2);(try clear hk);(try clear hi);have wL:w7.cell? ⟨eW,0,none⟩=some (.bool true):=(af cP.out 0).trans rfl;have wM:w7.cell? ⟨eW,1,none⟩=some (.slice gW dD.length gX):=(af cP.out 1).trans rfl;have BV:w7.cell? ⟨eW,2,none⟩=some (.string bp):=(af cP.out 2).trans rfl;have E1:w7.cell? ⟨eW,3,none⟩=some (.string dY):=(af cP.out 3).trans rfl;have E2:w7.cell? ⟨eW,4,none⟩=some (.bool bC):=(af cP.out 4).trans rfl;have wN:=aa cP.out 0;have wO:=aa cP.out 1;have BW:=aa cP.out 2;have E3:=aa cP.out 3;have E4:=aa cP.out 4))
   go_ret2
   exact ⟨cO,lC⟩
  ·replace c4:=Bool.eq_false_iff.mpr c4
   subst c4
   have H1:(if dY.toList=([]:List UInt8) then (some ((⟨#[60,112,111,115,116,109,97,115,116,101,114,62]⟩:ByteArray),0)) else ((gZ.f k bp dY bC).bind fun gS=>(if (dD.length:Int) > 0 then ((strings_Join.f dD (⟨#[44,64]⟩:ByteArray)).bind fun iA=>(if 1 + iA.size≤9223372036854775807 then (if ((⟨#[64]⟩:ByteArray) ++ iA).size + 1≤9223372036854775807 then (if (((⟨#[64]⟩:ByteArray) ++ iA) ++ (⟨#[58]⟩:ByteArray)).size + gS.1.size≤9223372036854775807 then (if 1 + ((((⟨#[64]⟩:ByteArray) ++ iA) ++ (⟨#[58]⟩:ByteArray)) ++ gS.1).size≤9223372036854775807 then (if ((⟨#[60]⟩:ByteArray) ++ ((((⟨#[64]⟩:ByteArray) ++ iA) ++ (⟨#[58]⟩:ByteArray)) ++ gS.1)).size + 1≤9223372036854775807 then (some (((⟨#[60]⟩:ByteArray) ++ ((((⟨#[64]⟩:ByteArray) ++ iA) ++ (⟨#[58]⟩:ByteArray)) ++ gS.1)) ++ (⟨#[62]⟩:ByteArray),gS.2)) else (none)) else (none)) else (none)) else (none)) else (none))) else (if 1 + gS.1.size≤9223372036854775807 then (if ((⟨#[60]⟩:ByteArray) ++ gS.1).size + 1≤9223372036854775807 then (some (((⟨#[60]⟩:ByteArray) ++ gS.1) ++ (⟨#[62]⟩:ByteArray),gS.2)) else (none)) else (none)))))=some (r1,r2):=by rw [if_neg (show ¬ (false=true) by decide)] at H;exact H
   clear H
   have H:=H1
   clear H1
   by_cases c9:dY.toList=([]:List UInt8)
   ·rw [if_pos c9] at H
    have SI:(dY.toList == ([]:List UInt8))=true:=beq_iff_eq.mpr c9
    have adg:(dY.toList != ([]:List UInt8))=false:=bne_eq_false_iff_eq.mpr c9
    clear c9
    simp only [Option.some.injEq,Prod.mk.injEq] at H
    obtain ⟨rfl,rfl⟩:=H
    go_enter Tryz.func21,Tryz.ntmps21
    go_wp2_with (first|((with_reducible refine cQ (N:=1) rfl ?_);refine cE ?hg (N:=1) ?hd (cs:=#[.bool false,.slice gW dD.length gX,.string bp,.string dY,.bool bC]) (t:=32) ?hr ?_;(case hd=>rfl);(case hg=>rfl);(case hr=>first|(go_simp;done)|(go_simp;rfl));intro eW hg sw cY hb;have bL:=ah.mk (aC cw hb);have bS:=ah.mk (cY);have cG:=ah.mk ((dQ:w.heap.size≤eW));have dA:=ah.mk ((dQ:w.heap.size≤eW));clear HB;have HB:=bL;have cP:=bS;have RR:=cG;have Lj:=dA;clear bL bS cG dA;clear hb cY hg;have sS:sw.cell? ⟨eW,0,none⟩=some (.bool false):=(af cP.out 0).trans rfl;have sU:sw.cell? ⟨eW,1,none⟩=some (.slice gW dD.length gX):=(af cP.out 1).trans rfl;have sV:sw.cell? ⟨eW,2,none⟩=some (.string bp):=(af cP.out 2).trans rfl;have xO:sw.cell? ⟨eW,3,none⟩=some (.string dY):=(af cP.out 3).trans rfl;have xP:sw.cell? ⟨eW,4,none⟩=some (.bool bC):=(af cP.out 4).trans rfl;have sW:=aa cP.out 0;have sX:=aa cP.out 1;have sY:=aa cP.out 2;have xQ:=aa cP.out 3;have xR:=aa cP.out 4)|((with_reducible refine aU (f:=20) rfl ?_);refine cB (some 8) rfl rfl Tryz.func20 av rfl #[.agg #[.bool false,.slice gW dD.length gX,.string bp,.string dY,.bool bC]] rfl cX ?_;(with_reducible refine (fy.calls k false _ _ dD bp dY bC true _ ?aW ?bY ?eO A2.out).mono ?_);(case aW=>repeat (first|exact (Kd.eF wR.out HB.out)|(with_reducible refine Kd.dZ ?_ _)|(with_reducible refine Kd.eo ?_ _)|(with_reducible refine Kd.eZ ?_)));(case bY=>exact Ac.out);(case eO=>exact aQ.below HG.out lC);rintro e SJ ⟨rfl,hb⟩;refine ⟨_,rfl,?_⟩;have bL:=ah.mk (aX (g:=eW) (o:= .cells #[.bool false,.slice gW dD.length gX,.string bp,.string dY,.bool bC] 32 (0,0)) wE hb);have bS:=ah.mk (aC lC hb);clear cP;clear HB;have cP:=bL;have HB:=bS;clear bL bS;(try clear hb);(try clear hb2);(try clear hk);(try clear hi);have qi:SJ.cell? ⟨eW,0,none⟩=some (.bool false):=(af cP.out 0).trans rfl;have qj:SJ.cell? ⟨eW,1,none⟩=some (.slice gW dD.length gX):=(af cP.out 1).trans rfl;have uJ:SJ.cell? ⟨eW,2,none⟩=some (.string bp):=(af cP.out 2).trans rfl;have DK:SJ.cell? ⟨eW,3,none⟩=some (.string dY):=(af cP.out 3).trans rfl;have DL:SJ.cell? ⟨eW,4,none⟩=some (.bool bC):=(af cP.out 4).trans rfl;have qm:=aa cP.out 0;have qo:=aa cP.out 1;have uK:=aa cP.out 2;have DM:=aa cP.out 3;have DN:=aa cP.out 4))
    go_ret2
    exact ⟨cO,lC⟩
   ·rw [if_neg c9] at H
    have SI:(dY.toList == ([]:List UInt8))=false:=beq_eq_false_iff_ne.mpr c9
    have adg:(dY.toList != ([]:List UInt8))=true:=bne_iff_ne.mpr c9
    replace H:=Option.bind_eq_some_iff.mp H
    obtain ⟨⟨oc,VK⟩,Bd,H⟩:=H
    replace H:(if (dD.length:Int) > 0 then ((strings_Join.f dD (⟨#[44,64]⟩:ByteArray)).bind fun iA=>(if 1 + iA.size≤9223372036854775807 then (if ((⟨#[64]⟩:ByteArray) ++ iA).size + 1≤9223372036854775807 then (if (((⟨#[64]⟩:ByteArray) ++ iA) ++ (⟨#[58]⟩:ByteArray)).size + oc.size≤9223372036854775807 then (if 1 + ((((⟨#[64]⟩:ByteArray) ++ iA) ++ (⟨#[58]⟩:ByteArray)) ++ oc).size≤9223372036854775807 then (if ((⟨#[60]⟩:ByteArray) ++ ((((⟨#[64]⟩:ByteArray) ++ iA) ++ (⟨#[58]⟩:ByteArray)) ++ oc)).size + 1≤9223372036854775807 then (some (((⟨#[60]⟩:ByteArray) ++ ((((⟨#[64]⟩:ByteArray) ++ iA) ++ (⟨#[58]⟩:ByteArray)) ++ oc)) ++ (⟨#[62]⟩:ByteArray),VK)) else (none)) else (none)) else (none)) else (none)) else (none))) else (if 1 + oc.size≤9223372036854775807 then (if ((⟨#[60]⟩:ByteArray) ++ oc).size + 1≤9223372036854775807 then (some (((⟨#[60]⟩:ByteArray) ++ oc) ++ (⟨#[62]⟩:ByteArray),VK)) else (none)) else (none)))=some (r1,r2):=H
    have UR:=ah.mk Bd
    clear Bd
    by_cases c15:(dD.length:Int) > 0
    ·rw [if_pos c15] at H
     have E0:decide (0 < (dD.length:Int))=true:=decide_eq_true c15
     have Qg:decide (0 < dD.length)=true:=decide_eq_true aq
     clear c15
     replace H:=Option.bind_eq_some_iff.mp H
     obtain ⟨iA,Mn,H⟩:=H
     replace H:(if 1 + iA.size≤9223372036854775807 then (if ((⟨#[64]⟩:ByteArray) ++ iA).size + 1≤9223372036854775807 then (if (((⟨#[64]⟩:ByteArray) ++ iA) ++ (⟨#[58]⟩:ByteArray)).size + oc.size≤9223372036854775807 then (if 1 + ((((⟨#[64]⟩:ByteArray) ++ iA) ++ (⟨#[58]⟩:ByteArray)) ++ oc).size≤9223372036854775807 then (if ((⟨#[60]⟩:ByteArray) ++ ((((⟨#[64]⟩:ByteArray) ++ iA) ++ (⟨#[58]⟩:ByteArray)) ++ oc)).size + 1≤9223372036854775807 then (some (((⟨#[60]⟩:ByteArray) ++ ((((⟨#[64]⟩:ByteArray) ++ iA) ++ (⟨#[58]⟩:ByteArray)) ++ oc)) ++ (⟨#[62]⟩:ByteArray),VK)) else (none)) else (none)) else (none)) else (none)) else (none))=some (r1,r2):=H
     have A16:=ah.mk Mn
     clear Mn
     by_cases c17: 1 + iA.size≤9223372036854775807
     ·rw [if_pos c17] at H
      have Rm:=eq_true c17
      have akM:decide (1 + iA.size≤9223372036854775807)=true:=decide_eq_true c17
      try have akN:(9223372036854775807 < 1 + iA.size)=False:=eq_false (Nat.not_lt.2 c17)
      by_cases c18:((⟨#[64]⟩:ByteArray) ++ iA).size + 1≤9223372036854775807
      ·rw [if_pos c18] at H
       have aec:=eq_true c18
       have akO:decide (((⟨#[64]⟩:ByteArray) ++ iA).size + 1≤9223372036854775807)=true:=decide_eq_true c18
       try have aed:(9223372036854775807 < ((⟨#[64]⟩:ByteArray) ++ iA).size + 1)=False:=eq_false (Nat.not_lt.2 c18)
       try (have Z8:=aed;simp only [ByteArray.size_append] at Z8)
       try have akP:(9223372036854775807 < (1 + iA.size) + 1)=False:=Z8
       by_cases c19:(((⟨#[64]⟩:ByteArray) ++ iA) ++ (⟨#[58]⟩:ByteArray)).size + oc.size≤9223372036854775807
       ·rw [if_pos c19] at H
        have RI:=eq_true c19
        have Vo:decide ((((⟨#[64]⟩:ByteArray) ++ iA) ++ (⟨#[58]⟩:ByteArray)).size + oc.size≤9223372036854775807)=true:=decide_eq_true c19
        try have aee:(9223372036854775807 < (((⟨#[64]⟩:ByteArray) ++ iA) ++ (⟨#[58]⟩:ByteArray)).size + oc.size)=False:=eq_false (Nat.not_lt.2 c19)
        try (have Z9:=aee;simp only [ByteArray.size_append] at Z9)
        try have akQ:(9223372036854775807 < (1 + iA.size + 1) + oc.size)=False:=Z9
        by_cases c20: 1 + ((((⟨#[64]⟩:ByteArray) ++ iA) ++ (⟨#[58]⟩:ByteArray)) ++ oc).size≤9223372036854775807
        ·rw [if_pos c20] at H
         have GL:=eq_true c20
         have aef:decide (1 + ((((⟨#[64]⟩:ByteArray) ++ iA) ++ (⟨#[58]⟩:ByteArray)) ++ oc).size≤9223372036854775807)=true:=decide_eq_true c20
         try have aaa:(9223372036854775807 < 1 + ((((⟨#[64]⟩:ByteArray) ++ iA) ++ (⟨#[58]⟩:ByteArray)) ++ oc).size)=False:=eq_false (Nat.not_lt.2 c20)
         try (have aab:=aaa;simp only [ByteArray.size_append] at aab)
         try have akR:(9223372036854775807 < 1 + (1 + iA.size + 1 + oc.size))=False:=aab
         by_cases c21:((⟨#[60]⟩:ByteArray) ++ ((((⟨#[64]⟩:ByteArray) ++ iA) ++ (⟨#[58]⟩:ByteArray)) ++ oc)).size + 1≤9223372036854775807
         ·rw [if_pos c21] at H
          have Qt:=eq_true c21
          have VL:decide (((⟨#[60]⟩:ByteArray) ++ ((((⟨#[64]⟩:ByteArray) ++ iA) ++ (⟨#[58]⟩:ByteArray)) ++ oc)).size + 1≤9223372036854775807)=true:=decide_eq_true c21
          try have RS:(9223372036854775807 < ((⟨#[60]⟩:ByteArray) ++ ((((⟨#[64]⟩:ByteArray) ++ iA) ++ (⟨#[58]⟩:ByteArray)) ++ oc)).size + 1)=False:=eq_false (Nat.not_lt.2 c21)
          try (have MI:=RS;simp only [ByteArray.size_append] at MI)
          try have aeg:(9223372036854775807 < (1 + (1 + iA.size + 1 + oc.size)) + 1)=False:=MI
          simp only [Option.some.injEq,Prod.mk.injEq] at H
          obtain ⟨rfl,rfl⟩:=H
          go_enter Tryz.func21,Tryz.ntmps21
          go_wp2_with (first|((with_reducible refine cQ (N:=1) rfl ?_);refine cE ?hg (N:=1) ?hd (cs:=#[.bool false,.slice gW dD.length gX,.string bp,.string dY,.bool bC]) (t:=32) ?hr ?_;(case hd=>rfl);(case hg=>rfl);(case hr=>first|(go_simp;done)|(go_simp;rfl));intro eW hg Fb cY hb;have bL:=ah.mk (aC cw hb);have bS:=ah.mk (cY);have cG:=ah.mk ((dQ:w.heap.size≤eW));have dA:=ah.mk ((dQ:w.heap.size≤eW));clear HB;have HB:=bL;have cP:=bS;have RR:=cG;have Lj:=dA;clear bL bS cG dA;clear hb cY hg;have Ej:Fb.cell? ⟨eW,0,none⟩=some (.bool false):=(af cP.out 0).trans rfl;have Ek:Fb.cell? ⟨eW,1,none⟩=some (.slice gW dD.length gX):=(af cP.out 1).trans rfl;have El:Fb.cell? ⟨eW,2,none⟩=some (.string bp):=(af cP.out 2).trans rfl;have RJ:Fb.cell? ⟨eW,3,none⟩=some (.string dY):=(af cP.out 3).trans rfl;have RL:Fb.cell? ⟨eW,4,none⟩=some (.bool bC):=(af cP.out 4).trans rfl;have Em:=aa cP.out 0;have En:=aa cP.out 1;have Eo:=aa cP.out 2;have RM:=aa cP.out 3;have RN:=aa cP.out 4)|((with_reducible refine aU (f:=20) rfl ?_);refine cB (some 8) rfl rfl Tryz.func20 av rfl #[.agg #[.bool false,.slice gW dD.length gX,.string bp,.string dY,.bool bC]] rfl cX ?_;(with_reducible refine (fy.calls k false _ _ dD bp dY bC true _ ?aW ?bY ?eO A2.out).mono ?_);(case aW=>repeat (first|exact (Kd.eF wR.out HB.out)|(with_reducible refine Kd.dZ ?_ _)|(with_reducible refine Kd.eo ?_ _)|(with_reducible refine Kd.eZ ?_)));(case bY=>exact Ac.out);(case eO=>exact aQ.below HG.out lC);rintro e KN ⟨rfl,hb⟩;refine ⟨_,rfl,?_⟩;have bL:=ah.mk (aX (g:=eW) (o:= .cells #[.bool false,.slice gW dD.length gX,.string bp,.string dY,.bool bC] 32 (0,0)) wE hb);have bS:=ah.mk (aC lC hb);clear cP;clear HB;have cP:=bL;have HB:=bS;clear bL bS;(try clear hb);(try clear hb2);(try clear hk);(try clear hi);have td:KN.cell? ⟨eW,0,none⟩=some (.bool false):=(af cP.out 0).trans rfl;have tj:KN.cell? ⟨eW,1,none⟩=some (.slice gW dD.length gX):=(af cP.out 1).trans rfl;have tq:KN.cell? ⟨eW,2,none⟩=some (.string bp):=(af cP.out 2).trans rfl;have yw:KN.cell? ⟨eW,3,none⟩=some (.string dY):=(af cP.out 3).trans rfl;have yx:KN.cell? ⟨eW,4,none⟩=some (.bool bC):=(af cP.out 4).trans rfl;have tu:=aa cP.out 0;have tv:=aa cP.out 1;have tA:=aa cP.out 2;have yz:=aa cP.out 3;have yA:=aa cP.out 4)|((with_reducible refine aU (f:=22) rfl ?_);refine cB (some 21) rfl rfl Tryz.func22 av rfl #[.agg #[.string bp,.string dY,.bool bC]] rfl cX ?_;(with_reducible refine (gZ.calls k bp dY bC oc VK _ ?aW UR.out).mono ?_);(case aW=>exact aQ.below HG.out lC);rintro e zO ⟨rfl,hb⟩;refine ⟨_,rfl,?_⟩;have bL:=ah.mk (aX (g:=eW) (o:= .cells #[.bool false,.slice gW dD.length gX,.string bp,.string dY,.bool bC] 32 (0,0)) wE hb);have bS:=ah.mk (aC lC hb);clear cP;clear HB;have cP:=bL;have HB:=bS;clear bL bS;(try clear hb);(try clear hb2);(try clear hk);(try clear hi);have Qv:zO.cell? ⟨eW,0,none⟩=some (.bool false):=(af cP.out 0).trans rfl;have Qw:zO.cell? ⟨eW,1,none⟩=some (.slice gW dD.length gX):=(af cP.out 1).trans rfl;have Xg:zO.cell? ⟨eW,2,none⟩=some (.string bp):=(af cP.out 2).trans rfl;have Xh:zO.cell? ⟨eW,3,none⟩=some (.string dY):=(af cP.out 3).trans rfl;have Xi:zO.cell? ⟨eW,4,none⟩=some (.bool bC):=(af cP.out 4).trans rfl;have Qx:=aa cP.out 0;have Qy:=aa cP.out 1;have Xj:=aa cP.out 2;have Xk:=aa cP.out 3;have Xl:=aa cP.out 4)|((with_reducible refine aU (f:=66) rfl ?_);refine cB (some 30) rfl rfl Tryz.func66 av rfl #[.slice gW dD.length gX,.string (⟨#[44,64]⟩:ByteArray)] rfl cX ?_;(with_reducible refine (strings_Join.calls _ _ dD (⟨#[44,64]⟩:ByteArray) iA _ ?aW ?bY A16.out).mono ?_);(case aW=>repeat (first|exact (Kd.eF wR.out HB.out)|(with_reducible refine Kd.dZ ?_ _)|(with_reducible refine Kd.eo ?_ _)|(with_reducible refine Kd.eZ ?_)));(case bY=>exact Ac.out);rintro e w28 ⟨rfl,hb⟩;refine ⟨_,rfl,?_⟩;have bL:=ah.mk (aX (g:=eW) (o:= .cells #[.bool false,.slice gW dD.length gX,.string bp,.string dY,.bool bC] 32 (0,0)) wE hb);have bS:=ah.mk (aC lC hb);clear cP;clear HB;have cP:=bL;have HB:=bS;clear bL bS;(try clear hb);(try clear hb2);(try clear hk);(try clear hi)))
          go_ret2
          exact ⟨cO,lC⟩
         ·rw [if_neg c21] at H
          exact absurd H aV
        ·rw [if_neg c20] at H
         exact absurd H aV
       ·rw [if_neg c19] at H
        exact absurd H aV
      ·rw [if_neg c18] at H
       exact absurd H aV
     ·rw [if_neg c17] at H
      exact absurd H aV
    ·rw [if_neg c15] at H
     have E0:decide (0 < (dD.length:Int))=false:=decide_eq_false c15
     have Qg:decide (0 < dD.length)=false:=decide_eq_false aq
     clear c15
     by_cases TR: 1 + oc.size≤9223372036854775807
     ·rw [if_pos TR] at H
      have ZQ:=eq_true TR
      have akS:decide (1 + oc.size≤9223372036854775807)=true:=decide_eq_true TR
      try have akT:(9223372036854775807 < 1 + oc.size)=False:=eq_false (Nat.not_lt.2 TR)
      by_cases Ol:((⟨#[60]⟩:ByteArray) ++ oc).size + 1≤9223372036854775807
      ·rw [if_pos Ol] at H
       have ac7:=eq_true Ol
       have akU:decide (((⟨#[60]⟩:ByteArray) ++ oc).size + 1≤9223372036854775807)=true:=decide_eq_true Ol
       try have aeh:(9223372036854775807 < ((⟨#[60]⟩:ByteArray) ++ oc).size + 1)=False:=eq_false (Nat.not_lt.2 Ol)
       try (have aac:=aeh;simp only [ByteArray.size_append] at aac)
       try have akV:(9223372036854775807 < (1 + oc.size) + 1)=False:=aac
       simp only [Option.some.injEq,Prod.mk.injEq] at H
       obtain ⟨rfl,rfl⟩:=H
       go_enter Tryz.func21,Tryz.ntmps21
       go_wp2_with (first|((with_reducible refine cQ (N:=1) rfl ?_);refine cE ?hg (N:=1) ?hd (cs:=#[.bool false,.slice gW dD.length gX,.string bp,.string dY,.bool bC]) (t:=32) ?hr ?_;(case hd=>rfl);(case hg=>rfl);(case hr=>first|(go_simp;done)|(go_simp;rfl));intro eW hg w31 cY hb;have bL:=ah.mk (aC cw hb);have bS:=ah.mk (cY);have cG:=ah.mk ((dQ:w.heap.size≤eW));have dA:=ah.mk ((dQ:w.heap.size≤eW));clear HB;have HB:=bL;have cP:=bS;have RR:=cG;have Lj:=dA;clear bL bS cG dA;clear hb cY hg;have agu:w31.cell? ⟨eW,0,none⟩=some (.bool false):=(af cP.out 0).trans rfl;have agv:w31.cell? ⟨eW,1,none⟩=some (.slice gW dD.length gX):=(af cP.out 1).trans rfl;have agw:w31.cell? ⟨eW,2,none⟩=some (.string bp):=(af cP.out 2).trans rfl;have agx:w31.cell? ⟨eW,3,none⟩=some (.string dY):=(af cP.out 3).trans rfl;have agy:w31.cell? ⟨eW,4,none⟩=some (.bool bC):=(af cP.out 4).trans rfl;have agz:=aa cP.out 0;have agA:=aa cP.out 1;have agB:=aa cP.out 2;have agC:=aa cP.out 3;have agD:=aa cP.out 4)|((with_reducible refine aU (f:=20) rfl ?_);refine cB (some 8) rfl rfl Tryz.func20 av rfl #[.agg #[.bool false,.slice gW dD.length gX,.string bp,.string dY,.bool bC]] rfl cX ?_;(with_reducible refine (fy.calls k false _ _ dD bp dY bC true _ ?aW ?bY ?eO A2.out).mono ?_);(case aW=>repeat (first|exact (Kd.eF wR.out HB.out)|(with_reducible refine Kd.dZ ?_ _)|(with_reducible refine Kd.eo ?_ _)|(with_reducible refine Kd.eZ ?_)));(case bY=>exact Ac.out);(case eO=>exact aQ.below HG.out lC);rintro e OA ⟨rfl,hb⟩;refine ⟨_,rfl,?_⟩;have bL:=ah.mk (aX (g:=eW) (o:= .cells #[.bool false,.slice gW dD.length gX,.string bp,.string dY,.bool bC] 32 (0,0)) wE hb);have bS:=ah.mk (aC lC hb);clear cP;clear HB;have cP:=bL;have HB:=bS;clear bL bS;(try clear hb);(try clear hb2);(try clear hk);(try clear hi);have J6:OA.cell? ⟨eW,0,none⟩=some (.bool false):=(af cP.out 0).trans rfl;have J7:OA.cell? ⟨eW,1,none⟩=some (.slice gW dD.length gX):=(af cP.out 1).trans rfl;have J8:OA.cell? ⟨eW,2,none⟩=some (.string bp):=(af cP.out 2).trans rfl;have YL:OA.cell? ⟨eW,3,none⟩=some (.string dY):=(af cP.out 3).trans rfl;have YM:OA.cell? ⟨eW,4,none⟩=some (.bool bC):=(af cP.out 4).trans rfl;have J9:=aa cP.out 0;have Ka:=aa cP.out 1;have Kb:=aa cP.out 2;have YN:=aa cP.out 3;have YO:=aa cP.out 4)|((with_reducible refine aU (f:=22) rfl ?_);refine cB (some 21) rfl rfl Tryz.func22 av rfl #[.agg #[.string bp,.string dY,.bool bC]] rfl cX ?_;(with_reducible refine (gZ.calls k bp dY bC oc VK _ ?aW UR.out).mono ?_);(case aW=>exact aQ.below HG.out lC);rintro e RT ⟨rfl,hb⟩;refine ⟨_,rfl,?_⟩;have bL:=ah.mk (aX (g:=eW) (o:= .cells #[.bool false,.slice gW dD.length gX,.string bp,.string dY,.bool bC] 32 (0,0)) wE hb);have bS:=ah.mk (aC lC hb);clear cP;clear HB;have cP:=bL;have HB:=bS;clear bL bS;(try clear hb);(try clear hb2);(try clear hk);(try clear hi);have AW:RT.cell? ⟨eW,0,none⟩=some (.bool false):=(af cP.out 0).trans rfl;have AX:RT.cell? ⟨eW,1,none⟩=some (.slice gW dD.length gX):=(af cP.out 1).trans rfl;have AY:RT.cell? ⟨eW,2,none⟩=some (.string bp):=(af cP.out 2).trans rfl;have Rh:RT.cell? ⟨eW,3,none⟩=some (.string dY):=(af cP.out 3).trans rfl;have Ri:RT.cell? ⟨eW,4,none⟩=some (.bool bC):=(af cP.out 4).trans rfl;have AZ:=aa cP.out 0;have Ba:=aa cP.out 1;have Bb:=aa cP.out 2;have Rj:=aa cP.out 3;have Rk:=aa cP.out 4))
       go_ret2
       exact ⟨cO,lC⟩
      ·rw [if_neg Ol] at H
       exact absurd H aV
     ·rw [if_neg TR] at H
      exact absurd H aV
 ·replace c3:=Bool.eq_false_iff.mpr c3
  subst c3
  have H1:(some ((⟨#[]⟩:ByteArray),150))=some (r1,r2):=by rw [if_neg (show ¬ (false=true) by decide)] at H;exact H
  clear H
  have H:=H1
  clear H1
  simp only [Option.some.injEq,Prod.mk.injEq] at H
  obtain ⟨rfl,rfl⟩:=H
  go_enter Tryz.func21,Tryz.ntmps21
  go_wp2_with (first|((with_reducible refine cQ (N:=1) rfl ?_);refine cE ?hg (N:=1) ?hd (cs:=#[.bool aI,.slice gW dD.length gX,.string bp,.string dY,.bool bC]) (t:=32) ?hr ?_;(case hd=>rfl);(case hg=>rfl);(case hr=>first|(go_simp;done)|(go_simp;rfl));intro eW hg w37 cY hb;have bL:=ah.mk (aC cw hb);have bS:=ah.mk (cY);have cG:=ah.mk ((dQ:w.heap.size≤eW));have dA:=ah.mk ((dQ:w.heap.size≤eW));clear HB;have HB:=bL;have cP:=bS;have RR:=cG;have Lj:=dA;clear bL bS cG dA;clear hb cY hg;have Xz:w37.cell? ⟨eW,0,none⟩=some (.bool aI):=(af cP.out 0).trans rfl;have XA:w37.cell? ⟨eW,1,none⟩=some (.slice gW dD.length gX):=(af cP.out 1).trans rfl;have XB:w37.cell? ⟨eW,2,none⟩=some (.string bp):=(af cP.out 2).trans rfl;have XC:w37.cell? ⟨eW,3,none⟩=some (.string dY):=(af cP.out 3).trans rfl;have XD:w37.cell? ⟨eW,4,none⟩=some (.bool bC):=(af cP.out 4).trans rfl;have XE:=aa cP.out 0;have XF:=aa cP.out 1;have XG:=aa cP.out 2;have XH:=aa cP.out 3;have XI:=aa cP.out 4)|((with_reducible refine aU (f:=20) rfl ?_);refine cB (some 8) rfl rfl Tryz.func20 av rfl #[.agg #[.bool aI,.slice gW dD.length gX,.string bp,.string dY,.bool bC]] rfl cX ?_;(with_reducible refine (fy.calls k aI _ _ dD bp dY bC false _ ?aW ?bY ?eO A2.out).mono ?_);(case aW=>repeat (first|exact (Kd.eF wR.out HB.out)|(with_reducible refine Kd.dZ ?_ _)|(with_reducible refine Kd.eo ?_ _)|(with_reducible refine Kd.eZ ?_)));(case bY=>exact Ac.out);(case eO=>exact aQ.below HG.out lC);rintro e WJ ⟨rfl,hb⟩;refine ⟨_,rfl,?_⟩;have bL:=ah.mk (aX (g:=eW) (o:= .cells #[.bool aI,.slice gW dD.length gX,.string bp,.string dY,.bool bC] 32 (0,0)) wE hb);have bS:=ah.mk (aC lC hb);clear cP;clear HB;have cP:=bL;have HB:=bS;clear bL bS;(try clear hb);(try clear hb2);(try clear hk);(try clear hi)))
  go_ret2
  exact ⟨cO,lC⟩
def dV.f (a0:Int):Option (Bool):=if a0=3 then (some true) else (some (a0 == 4))
theorem dV.calls (a0:Int) (r:Bool) (w:World) (h:dV.f a0=some r):
 Calls Tryz.prog 135 #[.int .u8 a0] w fun e w'=>e= .returned (.bool r)∧jr w w':=by
 have H:(if a0=3 then (some true) else (some (a0 == 4)))=some r:=h
 clear h
 by_cases c2:a0=3
 ·rw [if_pos c2] at H
  have BR:(a0 == 3)=true:=beq_iff_eq.mpr c2
  have N9:(a0 != 3)=false:=bne_eq_false_iff_eq.mpr c2
  clear c2
  obtain rfl:=Option.some.inj H
  go_enter Tryz.func135,Tryz.ntmps135
  go_wp2
  go_ret
  exact ⟨dG,ke⟩
 ·rw [if_neg c2] at H
  have BR:(a0 == 3)=false:=beq_eq_false_iff_ne.mpr c2
  have N9:(a0 != 3)=true:=bne_iff_ne.mpr c2
  obtain rfl:=Option.some.inj H
  go_enter Tryz.func135,Tryz.ntmps135
  go_wp2
  go_ret
  exact ⟨dG,ke⟩
mutual
def bU.j0:Nat→ByteArray→ByteArray→Int→ByteArray→Bool→List ByteArray→ByteArray→ByteArray→Bool→List (gw)→Option (ByteArray)
 | 0,_,_,_,_,_,_,_,_,_,_ =>none
 |k + 1,x3,x4,agE,agF,YP,YQ,YR,YS,YT,RU=>(kI.f k YP YQ YR YS YT).bind fun VM=>(if x4.size + VM.1.size≤9223372036854775807 then (if x3.size + (x4 ++ VM.1).size≤9223372036854775807 then (bU.l0 k (x3 ++ (x4 ++ VM.1)) RU (RU.length:Int) 0) else (none)) else (none))
def bU.l0:Nat→ByteArray→List (gw)→Int→Int→Option (ByteArray)
 | 0,_,_,_,_ =>none
 |k + 1,x3,TY,x41,RV=>if RV < x41 then (if 0≤RV then (if RV < (TY.length:Int) then (if 1 + ((dw TY RV).f0).size≤9223372036854775807 then (if x3.size + ((⟨#[32]⟩:ByteArray) ++ ((dw TY RV).f0)).size≤9223372036854775807 then (if (dw TY RV).f2=true then (if 1 + ((dw TY RV).f1).size≤9223372036854775807 then (if (x3 ++ ((⟨#[32]⟩:ByteArray) ++ ((dw TY RV).f0))).size + ((⟨#[61]⟩:ByteArray) ++ ((dw TY RV).f1)).size≤9223372036854775807 then (bU.l0 k ((x3 ++ ((⟨#[32]⟩:ByteArray) ++ ((dw TY RV).f0))) ++ ((⟨#[61]⟩:ByteArray) ++ ((dw TY RV).f1))) TY x41 (wrap64 (RV + 1))) else (none)) else (none)) else (bU.l0 k (x3 ++ ((⟨#[32]⟩:ByteArray) ++ ((dw TY RV).f0))) TY x41 (wrap64 (RV + 1)))) else (none)) else (none)) else (none)) else (none)) else (some x3)
end
def bU.f (k:Nat) (aI:Int) (aZ:ByteArray) (bp:Bool) (bX:List ByteArray) (bC:ByteArray) (ck:ByteArray) (cm:Bool) (bO:List (gw)):Option (ByteArray):=(iq.f aI).bind fun lf=>((dV.f aI).bind fun MJ=>(if MJ=true then (if aI=3 then (bU.j0 k lf (⟨#[32,70,82,79,77,58]⟩:ByteArray) aI aZ bp bX bC ck cm bO) else (bU.j0 k lf (⟨#[32,84,79,58]⟩:ByteArray) aI aZ bp bX bC ck cm bO)) else (if aZ.toList=([]:List UInt8) then (some lf) else (if 1 + aZ.size≤9223372036854775807 then (if lf.size + ((⟨#[32]⟩:ByteArray) ++ aZ).size≤9223372036854775807 then (some (lf ++ ((⟨#[32]⟩:ByteArray) ++ aZ))) else (none)) else (none)))))
theorem bU.calls (k:Nat) (aI:Int) (aZ:ByteArray) (bp:Bool) (dM:Option Addr) (dN:Nat) (bX:List ByteArray) (bC:ByteArray) (ck:ByteArray) (cm:Bool) (dR:Option Addr) (dO:Nat) (bO:List (gw)) (r:ByteArray) (w:World) (qF:Kd.C Kd.string w dM bX.length bX) (qG:bX.length≤dN) (qH:Kd.C zN w dR bO.length bO) (qI:bO.length≤dO) (hG:aQ w) (h:bU.f k aI aZ bp bX bC ck cm bO=some r):
 Calls Tryz.prog 89 #[.agg #[.int .u8 aI,.string aZ,.bool bp,.slice dM bX.length dN,.string bC,.string ck,.bool cm,.slice dR bO.length dO]] w fun e w'=>e= .returned (.string r)∧Below w.heap.size w w':=by
 have LY:=Tryz.underlying35
 have Oc:=Tryz.underlying32
 have UM:=Tryz.underlying58
 have mH:=ah.mk qF
 have mI:=ah.mk qG
 clear qF qG
 have n7:=ah.mk qH
 have qJ:=ah.mk qI
 clear qH qI
 have HB:=ah.mk (Below.refl w.heap.size w)
 have HG:=ah.mk hG
 clear hG
 have H:((iq.f aI).bind fun lf=>((dV.f aI).bind fun MJ=>(if MJ=true then (if aI=3 then (bU.j0 k lf (⟨#[32,70,82,79,77,58]⟩:ByteArray) aI aZ bp bX bC ck cm bO) else (bU.j0 k lf (⟨#[32,84,79,58]⟩:ByteArray) aI aZ bp bX bC ck cm bO)) else (if aZ.toList=([]:List UInt8) then (some lf) else (if 1 + aZ.size≤9223372036854775807 then (if lf.size + ((⟨#[32]⟩:ByteArray) ++ aZ).size≤9223372036854775807 then (some (lf ++ ((⟨#[32]⟩:ByteArray) ++ aZ))) else (none)) else (none))))))=some r:=h
 clear h
 replace H:=Option.bind_eq_some_iff.mp H
 obtain ⟨lf,nr,H⟩:=H
 replace H:((dV.f aI).bind fun MJ=>(if MJ=true then (if aI=3 then (bU.j0 k lf (⟨#[32,70,82,79,77,58]⟩:ByteArray) aI aZ bp bX bC ck cm bO) else (bU.j0 k lf (⟨#[32,84,79,58]⟩:ByteArray) aI aZ bp bX bC ck cm bO)) else (if aZ.toList=([]:List UInt8) then (some lf) else (if 1 + aZ.size≤9223372036854775807 then (if lf.size + ((⟨#[32]⟩:ByteArray) ++ aZ).size≤9223372036854775807 then (some (lf ++ ((⟨#[32]⟩:ByteArray) ++ aZ))) else (none)) else (none)))))=some r:=H
 have A2:=ah.mk nr
 clear nr
 replace H:=Option.bind_eq_some_iff.mp H
 obtain ⟨MJ,zf,H⟩:=H
 replace H:(if MJ=true then (if aI=3 then (bU.j0 k lf (⟨#[32,70,82,79,77,58]⟩:ByteArray) aI aZ bp bX bC ck cm bO) else (bU.j0 k lf (⟨#[32,84,79,58]⟩:ByteArray) aI aZ bp bX bC ck cm bO)) else (if aZ.toList=([]:List UInt8) then (some lf) else (if 1 + aZ.size≤9223372036854775807 then (if lf.size + ((⟨#[32]⟩:ByteArray) ++ aZ).size≤9223372036854775807 then (some (lf ++ ((⟨#[32]⟩:ByteArray) ++ aZ))) else (none)) else (none))))=some r:=H
 have A3:=ah.mk zf
 clear zf
 by_cases c4:MJ=true
 ·subst c4
  have H1:(if aI=3 then (bU.j0 k lf (⟨#[32,70,82,79,77,58]⟩:ByteArray) aI aZ bp bX bC ck cm bO) else (bU.j0 k lf (⟨#[32,84,79,58]⟩:ByteArray) aI aZ bp bX bC ck cm bO))=some r:=by rw [if_pos rfl] at H;exact H
  clear H
  have H:=H1
  clear H1
  have HC5:=ah.mk H
  clear H
  go_enter Tryz.func89,Tryz.ntmps89
  go_upto_if 27 with (first|((with_reducible refine cQ (N:=1) rfl ?_);refine cE ?hg (N:=1) ?hd (cs:=#[.int .u8 aI,.string aZ,.bool bp,.slice dM bX.length dN,.string bC,.string ck,.bool cm,.slice dR bO.length dO]) (t:=35) ?hr ?_;(case hd=>rfl);(case hg=>rfl);(case hr=>first|(go_simp;done)|(go_simp;rfl));intro eB hg w6 cY hb;have bL:=ah.mk (aC cw hb);have bS:=ah.mk (cY);have cG:=ah.mk ((dQ:w.heap.size≤eB));have dA:=ah.mk ((dQ:w.heap.size≤eB));clear HB;have HB:=bL;have cF:=bS;have aad:=cG;have Ll:=dA;clear bL bS cG dA;clear hb cY hg;have ER:w6.cell? ⟨eB,0,none⟩=some (.int .u8 aI):=(af cF.out 0).trans rfl;have ES:w6.cell? ⟨eB,1,none⟩=some (.string aZ):=(af cF.out 1).trans rfl;have OJ:w6.cell? ⟨eB,2,none⟩=some (.bool bp):=(af cF.out 2).trans rfl;have OL:w6.cell? ⟨eB,3,none⟩=some (.slice dM bX.length dN):=(af cF.out 3).trans rfl;have OM:w6.cell? ⟨eB,4,none⟩=some (.string bC):=(af cF.out 4).trans rfl;have VN:w6.cell? ⟨eB,5,none⟩=some (.string ck):=(af cF.out 5).trans rfl;have VO:w6.cell? ⟨eB,6,none⟩=some (.bool cm):=(af cF.out 6).trans rfl;have VP:w6.cell? ⟨eB,7,none⟩=some (.slice dR bO.length dO):=(af cF.out 7).trans rfl;have ET:=aa cF.out 0;have EU:=aa cF.out 1;have OO:=aa cF.out 2;have OP:=aa cF.out 3;have OQ:=aa cF.out 4;have VQ:=aa cF.out 5;have VR:=aa cF.out 6;have VS:=aa cF.out 7)|((with_reducible refine aU (f:=38) rfl ?_);refine cB (some 11) rfl rfl Tryz.func38 av rfl #[.int .u8 aI] rfl cX ?_;(with_reducible refine (iq.calls aI lf _ ?aW A2.out).mono ?_);(case aW=>exact aQ.below HG.out nM);rintro e w8 ⟨rfl,hb⟩;refine ⟨_,rfl,?_⟩;have bL:=ah.mk (aX (g:=eB) (o:= .cells #[.int .u8 aI,.string aZ,.bool bp,.slice dM bX.length dN,.string bC,.string ck,.bool cm,.slice dR bO.length dO] 35 (0,0)) ux hb);have bS:=ah.mk (aC nM hb);clear cF;clear HB;have cF:=bL;have HB:=bS;clear bL bS;(try clear hb);(try clear hb2);(try clear hk);(try clear hi);have pX:w8.cell? ⟨eB,0,none⟩=some (.int .u8 aI):=(af cF.out 0).trans rfl;have pY:w8.cell? ⟨eB,1,none⟩=some (.string aZ):=(af cF.out 1).trans rfl;have wS:w8.cell? ⟨eB,2,none⟩=some (.bool bp):=(af cF.out 2).trans rfl;have zo:w8.cell? ⟨eB,3,none⟩=some (.slice dM bX.length dN):=(af cF.out 3).trans rfl;have zq:w8.cell? ⟨eB,4,none⟩=some (.string bC):=(af cF.out 4).trans rfl;have KR:w8.cell? ⟨eB,5,none⟩=some (.string ck):=(af cF.out 5).trans rfl;have KS:w8.cell? ⟨eB,6,none⟩=some (.bool cm):=(af cF.out 6).trans rfl;have KU:w8.cell? ⟨eB,7,none⟩=some (.slice dR bO.length dO):=(af cF.out 7).trans rfl;have pZ:=aa cF.out 0;have p8:=aa cF.out 1;have wT:=aa cF.out 2;have zu:=aa cF.out 3;have zw:=aa cF.out 4;have KV:=aa cF.out 5;have KW:=aa cF.out 6;have KX:=aa cF.out 7)|((with_reducible refine aU (f:=135) rfl ?_);refine cB (some 14) rfl rfl Tryz.func135 av rfl #[.int .u8 aI] rfl cX ?_;(with_reducible refine (dV.calls aI true _ A3.out).mono ?_);rintro e w' ⟨rfl,⟨nd,rfl⟩⟩;refine ⟨_,rfl,?_⟩))
  (try simp only [Act.put,List.setIfInBounds_toArray,List.set_cons_zero,List.set_cons_succ])
  go_cut [4] (fun v4 wc=>∃ (kq:Nat) (Bp:ByteArray),v4= .string Bp∧ah (bU.j0 kq lf Bp aI aZ bp bX bC ck cm bO=some r)∧ah (kq≤k)∧ah (wc.heap[eB]? =some (.cells #[.int .u8 aI,.string aZ,.bool bp,(.slice dM bX.length dN),.string bC,.string ck,.bool cm,(.slice dR bO.length dO)] 35 (0,0)))∧ah (Below w.heap.size w wc))
  case first=>
   have H:=HC5.out
   clear HC5
   by_cases c10:aI=3
   ·rw [if_pos c10] at H
    have qy:(aI == 3)=true:=beq_iff_eq.mpr c10
    have CD:(aI != 3)=false:=bne_eq_false_iff_eq.mpr c10
    clear c10
    (first|rw [qy]|(simp only [cR,cW];rw [qy])|skip)
    have H':=ah.mk H
    clear H
    go_wp2
    go_meet
    case rel=>exact ⟨_,((⟨#[32,70,82,79,77,58]⟩:ByteArray)),dG,H',⟨mJ⟩,⟨ux⟩,⟨nM⟩⟩
   ·rw [if_neg c10] at H
    have qy:(aI == 3)=false:=beq_eq_false_iff_ne.mpr c10
    have CD:(aI != 3)=true:=bne_iff_ne.mpr c10
    (first|rw [qy]|(simp only [cR,cW];rw [qy])|skip)
    have H':=ah.mk H
    clear H
    go_wp2
    go_meet
    case rel=>exact ⟨_,((⟨#[32,84,79,58]⟩:ByteArray)),dG,H',⟨mJ⟩,⟨ux⟩,⟨nM⟩⟩
  case rest=>
   clear HC5
   try clear c1
   try clear p2
   try clear c3
   try clear c4
   try clear c8
   try clear c10
   try clear qy
   try clear CD
   try clear ER
   try clear ES
   try clear OJ
   try clear OL
   try clear OM
   try clear VN
   try clear VO
   try clear VP
   try clear pX
   try clear pY
   try clear wS
   try clear zo
   try clear zq
   try clear KR
   try clear KS
   try clear KU
   try clear ET
   try clear EU
   try clear OO
   try clear OP
   try clear OQ
   try clear VQ
   try clear VR
   try clear VS
   try clear pZ
   try clear p8
   try clear wT
   try clear zu
   try clear zw
   try clear KV
   try clear KW
   try clear KX
   obtain ⟨kq,Bp,rfl,HA,HJ4,cF,HB⟩:=hcut
   cases kq with
   |zero=>exact absurd HA.out (by simp [bU.j0])
   |succ kj4=>
    have H:=HA.out
    clear HA
    simp only [bU.j0] at H
    replace H:=Option.bind_eq_some_iff.mp H
    obtain ⟨⟨Dz,aiR⟩,VC,H⟩:=H
    replace H:(if Bp.size + Dz.size≤9223372036854775807 then (if lf.size + (Bp ++ Dz).size≤9223372036854775807 then (bU.l0 kj4 (lf ++ (Bp ++ Dz)) bO (bO.length:Int) 0) else (none)) else (none))=some r:=H
    have A11:=ah.mk VC
    clear VC
    by_cases c12:Bp.size + Dz.size≤9223372036854775807
    ·rw [if_pos c12] at H
     have wQ:=eq_true c12
     have CE:decide (Bp.size + Dz.size≤9223372036854775807)=true:=decide_eq_true c12
     try have RX:(9223372036854775807 < Bp.size + Dz.size)=False:=eq_false (Nat.not_lt.2 c12)
     by_cases c13:lf.size + (Bp ++ Dz).size≤9223372036854775807
     ·rw [if_pos c13] at H
      have E8:=eq_true c13
      have L3:decide (lf.size + (Bp ++ Dz).size≤9223372036854775807)=true:=decide_eq_true c13
      try have aae:(9223372036854775807 < lf.size + (Bp ++ Dz).size)=False:=eq_false (Nat.not_lt.2 c13)
      try (have aaf:=aae;simp only [ByteArray.size_append] at aaf)
      try have akW:(9223372036854775807 < lf.size + (Bp.size + Dz.size))=False:=aaf
      have H':=ah.mk H
      clear H
      have sZ:wc.cell? ⟨eB,0,none⟩=some (.int .u8 aI):=(af cF.out 0).trans rfl
      have s7:wc.cell? ⟨eB,1,none⟩=some (.string aZ):=(af cF.out 1).trans rfl
      have uY:wc.cell? ⟨eB,2,none⟩=some (.bool bp):=(af cF.out 2).trans rfl
      have uZ:wc.cell? ⟨eB,3,none⟩=some (.slice dM bX.length dN):=(af cF.out 3).trans rfl
      have u7:wc.cell? ⟨eB,4,none⟩=some (.string bC):=(af cF.out 4).trans rfl
      have u9:wc.cell? ⟨eB,5,none⟩=some (.string ck):=(af cF.out 5).trans rfl
      have vk:wc.cell? ⟨eB,6,none⟩=some (.bool cm):=(af cF.out 6).trans rfl
      have vo:wc.cell? ⟨eB,7,none⟩=some (.slice dR bO.length dO):=(af cF.out 7).trans rfl
      have s8:=aa cF.out 0
      have s9:=aa cF.out 1
      have vq:=aa cF.out 2
      have vv:=aa cF.out 3
      have vw:=aa cF.out 4
      have vA:=aa cF.out 5
      have vB:=aa cF.out 6
      have vC:=aa cF.out 7
      go_wp2_with (first|((with_reducible refine aU (f:=21) rfl ?_);refine cB (some 31) rfl rfl Tryz.func21 av rfl #[.agg #[.bool bp,.slice dM bX.length dN,.string bC,.string ck,.bool cm]] rfl cX ?_;(with_reducible refine (kI.calls kj4 bp _ _ bX bC ck cm Dz aiR _ ?aW ?bY ?eO A11.out).mono ?_);(case aW=>repeat (first|exact (Kd.eF mH.out HB.out)|(with_reducible refine Kd.dZ ?_ _)|(with_reducible refine Kd.eo ?_ _)|(with_reducible refine Kd.eZ ?_)));(case bY=>exact mI.out);(case eO=>exact aQ.below HG.out nM);rintro e GP ⟨rfl,hb⟩;refine ⟨_,rfl,?_⟩;have bL:=ah.mk (aX (g:=eB) (o:= .cells #[.int .u8 aI,.string aZ,.bool bp,.slice dM bX.length dN,.string bC,.string ck,.bool cm,.slice dR bO.length dO] 35 (0,0)) ux hb);have bS:=ah.mk (aC nM hb);clear cF;clear HB;have cF:=bL;have HB:=bS;clear bL bS;(try clear hb);(try clear hb2);(try clear hk);(try clear hi);have nu:GP.cell? ⟨eB,0,none⟩=some (.int .u8 aI):=(af cF.out 0).trans rfl;have nv:GP.cell? ⟨eB,1,none⟩=some (.string aZ):=(af cF.out 1).trans rfl;have qp:GP.cell? ⟨eB,2,none⟩=some (.bool bp):=(af cF.out 2).trans rfl;have sM:GP.cell? ⟨eB,3,none⟩=some (.slice dM bX.length dN):=(af cF.out 3).trans rfl;have sN:GP.cell? ⟨eB,4,none⟩=some (.string bC):=(af cF.out 4).trans rfl;have RY:GP.cell? ⟨eB,5,none⟩=some (.string ck):=(af cF.out 5).trans rfl;have RZ:GP.cell? ⟨eB,6,none⟩=some (.bool cm):=(af cF.out 6).trans rfl;have R3:GP.cell? ⟨eB,7,none⟩=some (.slice dR bO.length dO):=(af cF.out 7).trans rfl;have ny:=aa cF.out 0;have nA:=aa cF.out 1;have qq:=aa cF.out 2;have sO:=aa cF.out 3;have sP:=aa cF.out 4;have R4:=aa cF.out 5;have R5:=aa cF.out 6;have R6:=aa cF.out 7))
      go_loopg [3,42] kj4 (fun kq v3 v42 w'=>∃ (vO:ByteArray) (gp:Int),v3= .string vO∧v42= .int .i64 gp∧ah (bU.l0 kq vO bO (bO.length:Int) gp=some r)∧ah (kq≤kj4)∧ah (w'.heap[eB]? =some (.cells #[.int .u8 aI,.string aZ,.bool bp,(.slice dM bX.length dN),.string bC,.string ck,.bool cm,(.slice dR bO.length dO)] 35 (0,0)))∧ah (Below w.heap.size w w'))
      case atStart=>exact ⟨(lf ++ (Bp ++ Dz)),(0),dG,dG,H',⟨Nat.le_refl _⟩,⟨ux⟩,⟨nM⟩⟩
      case round=>
       clear H'
       try clear c1
       try clear c2
       try clear p2
       try clear c3
       try clear c4
       try clear c8
       try clear c10
       try clear qy
       try clear CD
       try clear c12
       try clear wQ
       try clear CE
       try clear RX
       try clear c13
       try clear E8
       try clear L3
       try clear aae
       try clear sZ
       try clear s7
       try clear uY
       try clear uZ
       try clear u7
       try clear u9
       try clear vk
       try clear vo
       try clear nu
       try clear nv
       try clear qp
       try clear sM
       try clear sN
       try clear RY
       try clear RZ
       try clear R3
       try clear ER
       try clear ES
       try clear OJ
       try clear OL
       try clear OM
       try clear VN
       try clear VO
       try clear VP
       try clear pX
       try clear pY
       try clear wS
       try clear zo
       try clear zq
       try clear KR
       try clear KS
       try clear KU
       try clear s8
       try clear s9
       try clear vq
       try clear vv
       try clear vw
       try clear vA
       try clear vB
       try clear vC
       try clear ny
       try clear nA
       try clear qq
       try clear sO
       try clear sP
       try clear R4
       try clear R5
       try clear R6
       try clear ET
       try clear EU
       try clear OO
       try clear OP
       try clear OQ
       try clear VQ
       try clear VR
       try clear VS
       try clear pZ
       try clear p8
       try clear wT
       try clear zu
       try clear zw
       try clear KV
       try clear KW
       try clear KX
       try clear p2
       obtain ⟨vO,gp,rfl,rfl,HA,Oe,cF,HB⟩:=hrel
       cases gk with
       |zero=>exact absurd HA.out (by simp [bU.l0])
       |succ k2=>
        have H:=HA.out
        clear HA
        simp only [bU.l0] at H
        by_cases c17:gp < (bO.length:Int)
        ·rw [if_pos c17] at H
         have Rm:decide (gp < (bO.length:Int))=true:=decide_eq_true c17
         clear c17
         by_cases c18: 0≤gp
         ·rw [if_pos c18] at H
          have aec:decide (0≤gp)=true:=decide_eq_true c18
          clear c18
          by_cases c19:gp < (bO.length:Int)
          ·rw [if_pos c19] at H
           have RI:decide (gp < (bO.length:Int))=true:=decide_eq_true c19
           clear c19
           by_cases c20: 1 + ((dw bO gp).f0).size≤9223372036854775807
           ·rw [if_pos c20] at H
            have GL:=eq_true c20
            have aef:decide (1 + ((dw bO gp).f0).size≤9223372036854775807)=true:=decide_eq_true c20
            try have aaa:(9223372036854775807 < 1 + ((dw bO gp).f0).size)=False:=eq_false (Nat.not_lt.2 c20)
            by_cases c21:vO.size + ((⟨#[32]⟩:ByteArray) ++ ((dw bO gp).f0)).size≤9223372036854775807
            ·rw [if_pos c21] at H
             have Qt:=eq_true c21
             have VL:decide (vO.size + ((⟨#[32]⟩:ByteArray) ++ ((dw bO gp).f0)).size≤9223372036854775807)=true:=decide_eq_true c21
             try have RS:(9223372036854775807 < vO.size + ((⟨#[32]⟩:ByteArray) ++ ((dw bO gp).f0)).size)=False:=eq_false (Nat.not_lt.2 c21)
             try (have MI:=RS;simp only [ByteArray.size_append] at MI)
             try have aeg:(9223372036854775807 < vO.size + (1 + ((dw bO gp).f0).size))=False:=MI
             obtain ⟨aei,VT⟩:∃ b_:Bool,b_=((dw bO gp).f2):=⟨_,rfl⟩
             replace H:(if aei=true then (if 1 + ((dw bO gp).f1).size≤9223372036854775807 then (if (vO ++ ((⟨#[32]⟩:ByteArray) ++ ((dw bO gp).f0))).size + ((⟨#[61]⟩:ByteArray) ++ ((dw bO gp).f1)).size≤9223372036854775807 then (bU.l0 k2 ((vO ++ ((⟨#[32]⟩:ByteArray) ++ ((dw bO gp).f0))) ++ ((⟨#[61]⟩:ByteArray) ++ ((dw bO gp).f1))) bO (bO.length:Int) (wrap64 (gp + 1))) else (none)) else (none)) else (bU.l0 k2 (vO ++ ((⟨#[32]⟩:ByteArray) ++ ((dw bO gp).f0))) bO (bO.length:Int) (wrap64 (gp + 1))))=some r:=by rw [← VT] at H;exact H
             have aag:=ah.mk VT
             clear VT
             by_cases UK:aei=true
             ·subst UK
              have H1:(if 1 + ((dw bO gp).f1).size≤9223372036854775807 then (if (vO ++ ((⟨#[32]⟩:ByteArray) ++ ((dw bO gp).f0))).size + ((⟨#[61]⟩:ByteArray) ++ ((dw bO gp).f1)).size≤9223372036854775807 then (bU.l0 k2 ((vO ++ ((⟨#[32]⟩:ByteArray) ++ ((dw bO gp).f0))) ++ ((⟨#[61]⟩:ByteArray) ++ ((dw bO gp).f1))) bO (bO.length:Int) (wrap64 (gp + 1))) else (none)) else (none))=some r:=by rw [if_pos rfl] at H;exact H
              clear H
              have H:=H1
              clear H1
              by_cases c24: 1 + ((dw bO gp).f1).size≤9223372036854775807
              ·rw [if_pos c24] at H
               have LS:=eq_true c24
               have ZK:decide (1 + ((dw bO gp).f1).size≤9223372036854775807)=true:=decide_eq_true c24
               try have akX:(9223372036854775807 < 1 + ((dw bO gp).f1).size)=False:=eq_false (Nat.not_lt.2 c24)
               by_cases SQ:(vO ++ ((⟨#[32]⟩:ByteArray) ++ ((dw bO gp).f0))).size + ((⟨#[61]⟩:ByteArray) ++ ((dw bO gp).f1)).size≤9223372036854775807
               ·rw [if_pos SQ] at H
                have Vp:=eq_true SQ
                have akY:decide ((vO ++ ((⟨#[32]⟩:ByteArray) ++ ((dw bO gp).f0))).size + ((⟨#[61]⟩:ByteArray) ++ ((dw bO gp).f1)).size≤9223372036854775807)=true:=decide_eq_true SQ
                try have aej:(9223372036854775807 < (vO ++ ((⟨#[32]⟩:ByteArray) ++ ((dw bO gp).f0))).size + ((⟨#[61]⟩:ByteArray) ++ ((dw bO gp).f1)).size)=False:=eq_false (Nat.not_lt.2 SQ)
                try (have aah:=aej;simp only [ByteArray.size_append] at aah)
                try have akZ:(9223372036854775807 < (vO.size + (1 + ((dw bO gp).f0).size)) + (1 + ((dw bO gp).f1).size))=False:=aah
                have H':=ah.mk H
                clear H
                have OW: 0≤(gp:Int):=of_decide_eq_true cL
                have OX:gp < (bO.length:Int):=of_decide_eq_true cL
                obtain ⟨Ls,abM,vP,vQ,rC⟩:=wI n7.out gp OW OX
                (try rw [← aag.out] at rC)
                cases abM
                replace vP:=(HB.out.cell (World.block_lt_of_cell? w _ vP)).trans vP
                replace vQ:=(HB.out.cell (World.block_lt_of_cell? w _ vQ)).trans vQ
                replace rC:=(HB.out.cell (World.block_lt_of_cell? w _ rC)).trans rC
                replace OW:=eq_true OW
                replace OX:=eq_true OX
                go_wp2_with (first|((with_reducible refine cQ (N:=8) rfl ?_);refine cE ?hg (N:=8) ?hd (cs:=#[.string (⟨#[]⟩:ByteArray),.string (⟨#[]⟩:ByteArray),.bool false]) (t:=58) ?hr ?_;(case hd=>rfl);(case hg=>rfl);(case hr=>first|(go_simp;done)|(go_simp;rfl));intro rX hg zO cY hb;have bL:=ah.mk (aX (g:=eB) (o:= .cells #[.int .u8 aI,.string aZ,.bool bp,.slice dM bX.length dN,.string bC,.string ck,.bool cm,.slice (some Ls) bO.length dO] 35 (0,0)) ux hb);have bS:=ah.mk (aC nM hb);have cG:=ah.mk (cY);have dA:=ah.mk ((Hy:w.heap.size≤rX));have mG:=ah.mk ((Hy:w.heap.size≤rX));have rS:=ah.mk ((Ui:eB≠rX));have sL:=ah.mk ((Uj:rX≠eB));clear cF;clear HB;have cF:=bL;have HB:=bS;have ug:=cG;have aek:=dA;have Zv:=mG;have rE:=rS;have Cc:=sL;clear bL bS cG dA mG rS sL;clear hb cY hg;have ZO:=Cc.out;have ZP:=rE.out;have yB:zO.cell? ⟨rX,0,none⟩=some (.string (⟨#[]⟩:ByteArray)):=(af ug.out 0).trans rfl;have yC:zO.cell? ⟨rX,1,none⟩=some (.string (⟨#[]⟩:ByteArray)):=(af ug.out 1).trans rfl;have yD:zO.cell? ⟨rX,2,none⟩=some (.bool false):=(af ug.out 2).trans rfl;have yE:=aa ug.out 0;have yF:=aa ug.out 1;have yG:=aa ug.out 2))
                go_roundg k2
                case measure=>have:=HJ4.out;have:=Oe.out;omega
                case rel=>exact ⟨((vO ++ ((⟨#[32]⟩:ByteArray) ++ ((dw bO gp).f0))) ++ ((⟨#[61]⟩:ByteArray) ++ ((dw bO gp).f1))),(wrap64 (gp + 1)),dG,dG,H',⟨by have:=HJ4.out;have:=Oe.out;omega⟩,⟨Ug⟩,⟨PT⟩⟩
               ·rw [if_neg SQ] at H
                exact absurd H aV
              ·rw [if_neg c24] at H
               exact absurd H aV
             ·replace UK:=Bool.eq_false_iff.mpr UK
              subst UK
              have H1:(bU.l0 k2 (vO ++ ((⟨#[32]⟩:ByteArray) ++ ((dw bO gp).f0))) bO (bO.length:Int) (wrap64 (gp + 1)))=some r:=by rw [if_neg (show ¬ (false=true) by decide)] at H;exact H
              clear H
              have H:=H1
              clear H1
              have H':=ah.mk H
              clear H
              have OW: 0≤(gp:Int):=of_decide_eq_true cL
              have OX:gp < (bO.length:Int):=of_decide_eq_true cL
              obtain ⟨Ls,abM,vP,vQ,rC⟩:=wI n7.out gp OW OX
              (try rw [← aag.out] at rC)
              cases abM
              replace vP:=(HB.out.cell (World.block_lt_of_cell? w _ vP)).trans vP
              replace vQ:=(HB.out.cell (World.block_lt_of_cell? w _ vQ)).trans vQ
              replace rC:=(HB.out.cell (World.block_lt_of_cell? w _ rC)).trans rC
              replace OW:=eq_true OW
              replace OX:=eq_true OX
              go_wp2_with (first|((with_reducible refine cQ (N:=8) rfl ?_);refine cE ?hg (N:=8) ?hd (cs:=#[.string (⟨#[]⟩:ByteArray),.string (⟨#[]⟩:ByteArray),.bool false]) (t:=58) ?hr ?_;(case hd=>rfl);(case hg=>rfl);(case hr=>first|(go_simp;done)|(go_simp;rfl));intro rX hg ZT cY hb;have bL:=ah.mk (aX (g:=eB) (o:= .cells #[.int .u8 aI,.string aZ,.bool bp,.slice dM bX.length dN,.string bC,.string ck,.bool cm,.slice (some Ls) bO.length dO] 35 (0,0)) ux hb);have bS:=ah.mk (aC nM hb);have cG:=ah.mk (cY);have dA:=ah.mk ((Hy:w.heap.size≤rX));have mG:=ah.mk ((Hy:w.heap.size≤rX));have rS:=ah.mk ((Ui:eB≠rX));have sL:=ah.mk ((Uj:rX≠eB));clear cF;clear HB;have cF:=bL;have HB:=bS;have ug:=cG;have aek:=dA;have Zv:=mG;have rE:=rS;have Cc:=sL;clear bL bS cG dA mG rS sL;clear hb cY hg;have ZU:=Cc.out;have ZV:=rE.out;have yH:ZT.cell? ⟨rX,0,none⟩=some (.string (⟨#[]⟩:ByteArray)):=(af ug.out 0).trans rfl;have yI:ZT.cell? ⟨rX,1,none⟩=some (.string (⟨#[]⟩:ByteArray)):=(af ug.out 1).trans rfl;have Bf:ZT.cell? ⟨rX,2,none⟩=some (.bool false):=(af ug.out 2).trans rfl;have yJ:=aa ug.out 0;have yK:=aa ug.out 1;have Bg:=aa ug.out 2))
              go_roundg k2
              case measure=>have:=HJ4.out;have:=Oe.out;omega
              case rel=>exact ⟨(vO ++ ((⟨#[32]⟩:ByteArray) ++ ((dw bO gp).f0))),(wrap64 (gp + 1)),dG,dG,H',⟨by have:=HJ4.out;have:=Oe.out;omega⟩,⟨Ug⟩,⟨PT⟩⟩
            ·rw [if_neg c21] at H
             exact absurd H aV
           ·rw [if_neg c20] at H
            exact absurd H aV
          ·rw [if_neg c19] at H
           exact absurd H aV
         ·rw [if_neg c18] at H
          exact absurd H aV
        ·rw [if_neg c17] at H
         have Rm:decide (gp < (bO.length:Int))=false:=decide_eq_false c17
         clear c17
         obtain rfl:=Option.some.inj H
         go_wp2
         go_ret
         exact ⟨cO,nM⟩
     ·rw [if_neg c13] at H
      exact absurd H aV
    ·rw [if_neg c12] at H
     exact absurd H aV
 ·replace c4:=Bool.eq_false_iff.mpr c4
  subst c4
  have H1:(if aZ.toList=([]:List UInt8) then (some lf) else (if 1 + aZ.size≤9223372036854775807 then (if lf.size + ((⟨#[32]⟩:ByteArray) ++ aZ).size≤9223372036854775807 then (some (lf ++ ((⟨#[32]⟩:ByteArray) ++ aZ))) else (none)) else (none)))=some r:=by rw [if_neg (show ¬ (false=true) by decide)] at H;exact H
  clear H
  have H:=H1
  clear H1
  by_cases BX:aZ.toList=([]:List UInt8)
  ·rw [if_pos BX] at H
   have GN:(aZ.toList == ([]:List UInt8))=true:=beq_iff_eq.mpr BX
   have Mr:(aZ.toList != ([]:List UInt8))=false:=bne_eq_false_iff_eq.mpr BX
   clear BX
   obtain rfl:=Option.some.inj H
   go_enter Tryz.func89,Tryz.ntmps89
   go_wp2_with (first|((with_reducible refine cQ (N:=1) rfl ?_);refine cE ?hg (N:=1) ?hd (cs:=#[.int .u8 aI,.string aZ,.bool bp,.slice dM bX.length dN,.string bC,.string ck,.bool cm,.slice dR bO.length dO]) (t:=35) ?hr ?_;(case hd=>rfl);(case hg=>rfl);(case hr=>first|(go_simp;done)|(go_simp;rfl));intro eB hg OA cY hb;have bL:=ah.mk (aC cw hb);have bS:=ah.mk (cY);have cG:=ah.mk ((dQ:w.heap.size≤eB));have dA:=ah.mk ((dQ:w.heap.size≤eB));clear HB;have HB:=bL;have cF:=bS;have aad:=cG;have Ll:=dA;clear bL bS cG dA;clear hb cY hg;have J6:OA.cell? ⟨eB,0,none⟩=some (.int .u8 aI):=(af cF.out 0).trans rfl;have J7:OA.cell? ⟨eB,1,none⟩=some (.string aZ):=(af cF.out 1).trans rfl;have J8:OA.cell? ⟨eB,2,none⟩=some (.bool bp):=(af cF.out 2).trans rfl;have YL:OA.cell? ⟨eB,3,none⟩=some (.slice dM bX.length dN):=(af cF.out 3).trans rfl;have YM:OA.cell? ⟨eB,4,none⟩=some (.string bC):=(af cF.out 4).trans rfl;have agI:OA.cell? ⟨eB,5,none⟩=some (.string ck):=(af cF.out 5).trans rfl;have agJ:OA.cell? ⟨eB,6,none⟩=some (.bool cm):=(af cF.out 6).trans rfl;have agK:OA.cell? ⟨eB,7,none⟩=some (.slice dR bO.length dO):=(af cF.out 7).trans rfl;have J9:=aa cF.out 0;have Ka:=aa cF.out 1;have Kb:=aa cF.out 2;have YN:=aa cF.out 3;have YO:=aa cF.out 4;have agL:=aa cF.out 5;have agM:=aa cF.out 6;have agN:=aa cF.out 7)|((with_reducible refine aU (f:=38) rfl ?_);refine cB (some 11) rfl rfl Tryz.func38 av rfl #[.int .u8 aI] rfl cX ?_;(with_reducible refine (iq.calls aI lf _ ?aW A2.out).mono ?_);(case aW=>exact aQ.below HG.out nM);rintro e RT ⟨rfl,hb⟩;refine ⟨_,rfl,?_⟩;have bL:=ah.mk (aX (g:=eB) (o:= .cells #[.int .u8 aI,.string aZ,.bool bp,.slice dM bX.length dN,.string bC,.string ck,.bool cm,.slice dR bO.length dO] 35 (0,0)) ux hb);have bS:=ah.mk (aC nM hb);clear cF;clear HB;have cF:=bL;have HB:=bS;clear bL bS;(try clear hb);(try clear hb2);(try clear hk);(try clear hi);have AW:RT.cell? ⟨eB,0,none⟩=some (.int .u8 aI):=(af cF.out 0).trans rfl;have AX:RT.cell? ⟨eB,1,none⟩=some (.string aZ):=(af cF.out 1).trans rfl;have AY:RT.cell? ⟨eB,2,none⟩=some (.bool bp):=(af cF.out 2).trans rfl;have Rh:RT.cell? ⟨eB,3,none⟩=some (.slice dM bX.length dN):=(af cF.out 3).trans rfl;have Ri:RT.cell? ⟨eB,4,none⟩=some (.string bC):=(af cF.out 4).trans rfl;have Xt:RT.cell? ⟨eB,5,none⟩=some (.string ck):=(af cF.out 5).trans rfl;have Xu:RT.cell? ⟨eB,6,none⟩=some (.bool cm):=(af cF.out 6).trans rfl;have Xv:RT.cell? ⟨eB,7,none⟩=some (.slice dR bO.length dO):=(af cF.out 7).trans rfl;have AZ:=aa cF.out 0;have Ba:=aa cF.out 1;have Bb:=aa cF.out 2;have Rj:=aa cF.out 3;have Rk:=aa cF.out 4;have Xw:=aa cF.out 5;have Xx:=aa cF.out 6;have Xy:=aa cF.out 7)|((with_reducible refine aU (f:=135) rfl ?_);refine cB (some 14) rfl rfl Tryz.func135 av rfl #[.int .u8 aI] rfl cX ?_;(with_reducible refine (dV.calls aI false _ A3.out).mono ?_);rintro e w' ⟨rfl,⟨nd,rfl⟩⟩;refine ⟨_,rfl,?_⟩))
   go_ret
   exact ⟨cO,nM⟩
  ·rw [if_neg BX] at H
   have GN:(aZ.toList == ([]:List UInt8))=false:=beq_eq_false_iff_ne.mpr BX
   have Mr:(aZ.toList != ([]:List UInt8))=true:=bne_iff_ne.mpr BX
   by_cases c37: 1 + aZ.size≤9223372036854775807
   ·rw [if_pos c37] at H
    have adt:=eq_true c37
    have adu:decide (1 + aZ.size≤9223372036854775807)=true:=decide_eq_true c37
    try have ak0:(9223372036854775807 < 1 + aZ.size)=False:=eq_false (Nat.not_lt.2 c37)
    by_cases TU:lf.size + ((⟨#[32]⟩:ByteArray) ++ aZ).size≤9223372036854775807
    ·rw [if_pos TU] at H
     have Z0:=eq_true TU
     have ak1:decide (lf.size + ((⟨#[32]⟩:ByteArray) ++ aZ).size≤9223372036854775807)=true:=decide_eq_true TU
     try have ael:(9223372036854775807 < lf.size + ((⟨#[32]⟩:ByteArray) ++ aZ).size)=False:=eq_false (Nat.not_lt.2 TU)
     try (have aai:=ael;simp only [ByteArray.size_append] at aai)
     try have ak2:(9223372036854775807 < lf.size + (1 + aZ.size))=False:=aai
     obtain rfl:=Option.some.inj H
     go_enter Tryz.func89,Tryz.ntmps89
     go_wp2_with (first|((with_reducible refine cQ (N:=1) rfl ?_);refine cE ?hg (N:=1) ?hd (cs:=#[.int .u8 aI,.string aZ,.bool bp,.slice dM bX.length dN,.string bC,.string ck,.bool cm,.slice dR bO.length dO]) (t:=35) ?hr ?_;(case hd=>rfl);(case hg=>rfl);(case hr=>first|(go_simp;done)|(go_simp;rfl));intro eB hg WJ cY hb;have bL:=ah.mk (aC cw hb);have bS:=ah.mk (cY);have cG:=ah.mk ((dQ:w.heap.size≤eB));have dA:=ah.mk ((dQ:w.heap.size≤eB));clear HB;have HB:=bL;have cF:=bS;have aad:=cG;have Ll:=dA;clear bL bS cG dA;clear hb cY hg;have JO:WJ.cell? ⟨eB,0,none⟩=some (.int .u8 aI):=(af cF.out 0).trans rfl;have JP:WJ.cell? ⟨eB,1,none⟩=some (.string aZ):=(af cF.out 1).trans rfl;have JQ:WJ.cell? ⟨eB,2,none⟩=some (.bool bp):=(af cF.out 2).trans rfl;have JR:WJ.cell? ⟨eB,3,none⟩=some (.slice dM bX.length dN):=(af cF.out 3).trans rfl;have JS:WJ.cell? ⟨eB,4,none⟩=some (.string bC):=(af cF.out 4).trans rfl;have R7:WJ.cell? ⟨eB,5,none⟩=some (.string ck):=(af cF.out 5).trans rfl;have R8:WJ.cell? ⟨eB,6,none⟩=some (.bool cm):=(af cF.out 6).trans rfl;have R9:WJ.cell? ⟨eB,7,none⟩=some (.slice dR bO.length dO):=(af cF.out 7).trans rfl;have JT:=aa cF.out 0;have JU:=aa cF.out 1;have JV:=aa cF.out 2;have JW:=aa cF.out 3;have JX:=aa cF.out 4;have Sa:=aa cF.out 5;have Sb:=aa cF.out 6;have Sc:=aa cF.out 7)|((with_reducible refine aU (f:=38) rfl ?_);refine cB (some 11) rfl rfl Tryz.func38 av rfl #[.int .u8 aI] rfl cX ?_;(with_reducible refine (iq.calls aI lf _ ?aW A2.out).mono ?_);(case aW=>exact aQ.below HG.out nM);rintro e OD ⟨rfl,hb⟩;refine ⟨_,rfl,?_⟩;have bL:=ah.mk (aX (g:=eB) (o:= .cells #[.int .u8 aI,.string aZ,.bool bp,.slice dM bX.length dN,.string bC,.string ck,.bool cm,.slice dR bO.length dO] 35 (0,0)) ux hb);have bS:=ah.mk (aC nM hb);clear cF;clear HB;have cF:=bL;have HB:=bS;clear bL bS;(try clear hb);(try clear hb2);(try clear hk);(try clear hi);have X3:OD.cell? ⟨eB,0,none⟩=some (.int .u8 aI):=(af cF.out 0).trans rfl;have X4:OD.cell? ⟨eB,1,none⟩=some (.string aZ):=(af cF.out 1).trans rfl;have X5:OD.cell? ⟨eB,2,none⟩=some (.bool bp):=(af cF.out 2).trans rfl;have X6:OD.cell? ⟨eB,3,none⟩=some (.slice dM bX.length dN):=(af cF.out 3).trans rfl;have X7:OD.cell? ⟨eB,4,none⟩=some (.string bC):=(af cF.out 4).trans rfl;have agO:OD.cell? ⟨eB,5,none⟩=some (.string ck):=(af cF.out 5).trans rfl;have agP:OD.cell? ⟨eB,6,none⟩=some (.bool cm):=(af cF.out 6).trans rfl;have agQ:OD.cell? ⟨eB,7,none⟩=some (.slice dR bO.length dO):=(af cF.out 7).trans rfl;have X8:=aa cF.out 0;have X9:=aa cF.out 1;have Ya:=aa cF.out 2;have Yb:=aa cF.out 3;have Yc:=aa cF.out 4;have agR:=aa cF.out 5;have agS:=aa cF.out 6;have agT:=aa cF.out 7)|((with_reducible refine aU (f:=135) rfl ?_);refine cB (some 14) rfl rfl Tryz.func135 av rfl #[.int .u8 aI] rfl cX ?_;(with_reducible refine (dV.calls aI false _ A3.out).mono ?_);rintro e w' ⟨rfl,⟨nd,rfl⟩⟩;refine ⟨_,rfl,?_⟩))
     go_ret
     exact ⟨cO,nM⟩
    ·rw [if_neg TU] at H
     exact absurd H aV
   ·rw [if_neg c37] at H
    exact absurd H aV
def jh.f (k:Nat) (aI:ByteArray) (aZ:ByteArray) (bp:Bool):Option (Bool):=(bH.f k aI aZ bp).bind fun S8=>(some (!S8))
theorem jh.calls (k:Nat) (aI:ByteArray) (aZ:ByteArray) (bp:Bool) (r:Bool) (w:World) (h:jh.f k aI aZ bp=some r):
 Calls Tryz.prog 137 #[.agg #[.string aI,.string aZ,.bool bp]] w fun e w'=>e= .returned (.bool r)∧Below w.heap.size w w':=by
 have UM:=Tryz.underlying58
 have HB:=ah.mk (Below.refl w.heap.size w)
 have H:((bH.f k aI aZ bp).bind fun S8=>(some (!S8)))=some r:=h
 clear h
 replace H:=Option.bind_eq_some_iff.mp H
 obtain ⟨S8,nr,H⟩:=H
 replace H:(some (!S8))=some r:=H
 have A2:=ah.mk nr
 clear nr
 obtain rfl:=Option.some.inj H
 go_enter Tryz.func137,Tryz.ntmps137
 go_wp2_with (first|((with_reducible refine cQ (N:=1) rfl ?_);refine cE ?hg (N:=1) ?hd (cs:=#[.string aI,.string aZ,.bool bp]) (t:=58) ?hr ?_;(case hd=>rfl);(case hg=>rfl);(case hr=>first|(go_simp;done)|(go_simp;rfl));intro GW hg w3 cY hb;have bL:=ah.mk (aC cw hb);have bS:=ah.mk (cY);have cG:=ah.mk ((dQ:w.heap.size≤GW));have dA:=ah.mk ((dQ:w.heap.size≤GW));clear HB;have HB:=bL;have Bq:=bS;have ak3:=cG;have acJ:=dA;clear bL bS cG dA;clear hb cY hg;have aiS:w3.cell? ⟨GW,0,none⟩=some (.string aI):=(af Bq.out 0).trans rfl;have aiT:w3.cell? ⟨GW,1,none⟩=some (.string aZ):=(af Bq.out 1).trans rfl;have aiU:w3.cell? ⟨GW,2,none⟩=some (.bool bp):=(af Bq.out 2).trans rfl;have aiV:=aa Bq.out 0;have aiW:=aa Bq.out 1;have aiX:=aa Bq.out 2)|((with_reducible refine aU (f:=138) rfl ?_);refine cB (some 4) rfl rfl Tryz.func138 av rfl #[.agg #[.string aI,.string aZ,.bool bp]] rfl cX ?_;(with_reducible refine (bH.calls k aI aZ bp S8 _ A2.out).mono ?_);rintro e w5 ⟨rfl,hb⟩;refine ⟨_,rfl,?_⟩;have bL:=ah.mk (aX (g:=GW) (o:= .cells #[.string aI,.string aZ,.bool bp] 58 (0,0)) (by (with_reducible repeat (first|refine bF ?_ _|refine bN ?_|refine bB ?_ _));exact Bq.out) hb);have bS:=ah.mk (aC PX hb);clear Bq;clear HB;have Bq:=bL;have HB:=bS;clear bL bS;(try clear hb);(try clear hb2);(try clear hk);(try clear hi)))
 go_ret
 exact ⟨cO,PX⟩
end Go.Proofs.YtokpnfljjjjikaaGreatDoor.nK
