import Derived.Test.YtokpnfljjjjikaaGreatDoorZo
import Derived.Test.YtokpnfljjjjikaaGreatDoorQCbx0
import Derived.Test.YtokpnfljjjjikaaGreatDoorQCbx10
import Derived.Test.YtokpnfljjjjikaaGreatDoorQCbx15
import Derived.Test.YtokpnfljjjjikaaGreatDoorEBox
import Derived.Test.YtokpnfljjjjikaaGreatDoorECmd
import Derived.Test.YtokpnfljjjjikaaGreatDoorEJoin
namespace Go.Proofs.YtokpnfljjjjikaaGreatDoor.pJ
open Go.RowKit Go.Proofs.aj.bV Go.Proofs.aj.gq Go.Proofs.aj.dB
attribute [local go_sem] jo jq kM kN iO iP jr jt
set_option linter.unusedVariables false
set_option linter.unusedSimpArgs false
def kW.f (k:Nat) (bg:Bool) (dO:List ByteArray) (bJ:ByteArray) (eD:ByteArray) (bO:Bool):Option (ByteArray×Int):=(gy.f k bg dO bJ eD bO).bind fun Tx=>(if Tx=true then (if bg=true then (some ((⟨#[60,62]⟩:ByteArray),0)) else (if eD.toList=([]:List UInt8) then (some ((⟨#[60,112,111,115,116,109,97,115,116,101,114,62]⟩:ByteArray),0)) else ((iL.f k bJ eD bO).bind fun iE=>(if (dO.length:Int) > 0 then ((strings_Join.f dO (⟨#[44,64]⟩:ByteArray)).bind fun iT=>(if 1 + iT.size≤9223372036854775807 then (if ((⟨#[64]⟩:ByteArray) ++ iT).size + 1≤9223372036854775807 then (if (((⟨#[64]⟩:ByteArray) ++ iT) ++ (⟨#[58]⟩:ByteArray)).size + iE.1.size≤9223372036854775807 then (if 1 + ((((⟨#[64]⟩:ByteArray) ++ iT) ++ (⟨#[58]⟩:ByteArray)) ++ iE.1).size≤9223372036854775807 then (if ((⟨#[60]⟩:ByteArray) ++ ((((⟨#[64]⟩:ByteArray) ++ iT) ++ (⟨#[58]⟩:ByteArray)) ++ iE.1)).size + 1≤9223372036854775807 then (some (((⟨#[60]⟩:ByteArray) ++ ((((⟨#[64]⟩:ByteArray) ++ iT) ++ (⟨#[58]⟩:ByteArray)) ++ iE.1)) ++ (⟨#[62]⟩:ByteArray),iE.2)) else (none)) else (none)) else (none)) else (none)) else (none))) else (if 1 + iE.1.size≤9223372036854775807 then (if ((⟨#[60]⟩:ByteArray) ++ iE.1).size + 1≤9223372036854775807 then (some (((⟨#[60]⟩:ByteArray) ++ iE.1) ++ (⟨#[62]⟩:ByteArray),iE.2)) else (none)) else (none)))))) else (some ((⟨#[]⟩:ByteArray),150)))
set_option maxHeartbeats 8000000 in
set_option maxRecDepth 100000 in
theorem kW.calls (k:Nat) (bg:Bool) (iI:Option Addr) (iJ:Nat) (dO:List ByteArray) (bJ:ByteArray) (eD:ByteArray) (bO:Bool) (r1:ByteArray) (r2:Int) (w:World) (CG:Kd.C Kd.string w iI dO.length dO) (CI:dO.length≤iJ) (hG:aU w) (h:kW.f k bg dO bJ eD bO=some (r1,r2)):
 Calls Tryz.prog 21 #[.agg #[.bool bg,.slice iI dO.length iJ,.string bJ,.string eD,.bool bO]] w fun e w'=>e= .returned (.tuple #[.string r1,.int .i64 r2])∧Below w.heap.size w w':=by
 have Oi:=Tryz.underlying32
 have LP:=Tryz.underlying30
 have xg:=ah.mk CG
 have Aj:=ah.mk CI
 clear CG CI
 have HB:=ah.mk (Below.refl w.heap.size w)
 have HG:=ah.mk hG
 clear hG
 have H:((gy.f k bg dO bJ eD bO).bind fun Tx=>(if Tx=true then (if bg=true then (some ((⟨#[60,62]⟩:ByteArray),0)) else (if eD.toList=([]:List UInt8) then (some ((⟨#[60,112,111,115,116,109,97,115,116,101,114,62]⟩:ByteArray),0)) else ((iL.f k bJ eD bO).bind fun iE=>(if (dO.length:Int) > 0 then ((strings_Join.f dO (⟨#[44,64]⟩:ByteArray)).bind fun iT=>(if 1 + iT.size≤9223372036854775807 then (if ((⟨#[64]⟩:ByteArray) ++ iT).size + 1≤9223372036854775807 then (if (((⟨#[64]⟩:ByteArray) ++ iT) ++ (⟨#[58]⟩:ByteArray)).size + iE.1.size≤9223372036854775807 then (if 1 + ((((⟨#[64]⟩:ByteArray) ++ iT) ++ (⟨#[58]⟩:ByteArray)) ++ iE.1).size≤9223372036854775807 then (if ((⟨#[60]⟩:ByteArray) ++ ((((⟨#[64]⟩:ByteArray) ++ iT) ++ (⟨#[58]⟩:ByteArray)) ++ iE.1)).size + 1≤9223372036854775807 then (some (((⟨#[60]⟩:ByteArray) ++ ((((⟨#[64]⟩:ByteArray) ++ iT) ++ (⟨#[58]⟩:ByteArray)) ++ iE.1)) ++ (⟨#[62]⟩:ByteArray),iE.2)) else (none)) else (none)) else (none)) else (none)) else (none))) else (if 1 + iE.1.size≤9223372036854775807 then (if ((⟨#[60]⟩:ByteArray) ++ iE.1).size + 1≤9223372036854775807 then (some (((⟨#[60]⟩:ByteArray) ++ iE.1) ++ (⟨#[62]⟩:ByteArray),iE.2)) else (none)) else (none)))))) else (some ((⟨#[]⟩:ByteArray),150))))=some (r1,r2):=h
 clear h
 replace H:=Option.bind_eq_some_iff.mp H
 obtain ⟨Tx,nU,H⟩:=H
 replace H:(if Tx=true then (if bg=true then (some ((⟨#[60,62]⟩:ByteArray),0)) else (if eD.toList=([]:List UInt8) then (some ((⟨#[60,112,111,115,116,109,97,115,116,101,114,62]⟩:ByteArray),0)) else ((iL.f k bJ eD bO).bind fun iE=>(if (dO.length:Int) > 0 then ((strings_Join.f dO (⟨#[44,64]⟩:ByteArray)).bind fun iT=>(if 1 + iT.size≤9223372036854775807 then (if ((⟨#[64]⟩:ByteArray) ++ iT).size + 1≤9223372036854775807 then (if (((⟨#[64]⟩:ByteArray) ++ iT) ++ (⟨#[58]⟩:ByteArray)).size + iE.1.size≤9223372036854775807 then (if 1 + ((((⟨#[64]⟩:ByteArray) ++ iT) ++ (⟨#[58]⟩:ByteArray)) ++ iE.1).size≤9223372036854775807 then (if ((⟨#[60]⟩:ByteArray) ++ ((((⟨#[64]⟩:ByteArray) ++ iT) ++ (⟨#[58]⟩:ByteArray)) ++ iE.1)).size + 1≤9223372036854775807 then (some (((⟨#[60]⟩:ByteArray) ++ ((((⟨#[64]⟩:ByteArray) ++ iT) ++ (⟨#[58]⟩:ByteArray)) ++ iE.1)) ++ (⟨#[62]⟩:ByteArray),iE.2)) else (none)) else (none)) else (none)) else (none)) else (none))) else (if 1 + iE.1.size≤9223372036854775807 then (if ((⟨#[60]⟩:ByteArray) ++ iE.1).size + 1≤9223372036854775807 then (some (((⟨#[60]⟩:ByteArray) ++ iE.1) ++ (⟨#[62]⟩:ByteArray),iE.2)) else (none)) else (none)))))) else (some ((⟨#[]⟩:ByteArray),150)))=some (r1,r2):=H
 have A2:=ah.mk nU
 clear nU
 by_cases c3:Tx=true
 ·subst c3
  have H1:(if bg=true then (some ((⟨#[60,62]⟩:ByteArray),0)) else (if eD.toList=([]:List UInt8) then (some ((⟨#[60,112,111,115,116,109,97,115,116,101,114,62]⟩:ByteArray),0)) else ((iL.f k bJ eD bO).bind fun iE=>(if (dO.length:Int) > 0 then ((strings_Join.f dO (⟨#[44,64]⟩:ByteArray)).bind fun iT=>(if 1 + iT.size≤9223372036854775807 then (if ((⟨#[64]⟩:ByteArray) ++ iT).size + 1≤9223372036854775807 then (if (((⟨#[64]⟩:ByteArray) ++ iT) ++ (⟨#[58]⟩:ByteArray)).size + iE.1.size≤9223372036854775807 then (if 1 + ((((⟨#[64]⟩:ByteArray) ++ iT) ++ (⟨#[58]⟩:ByteArray)) ++ iE.1).size≤9223372036854775807 then (if ((⟨#[60]⟩:ByteArray) ++ ((((⟨#[64]⟩:ByteArray) ++ iT) ++ (⟨#[58]⟩:ByteArray)) ++ iE.1)).size + 1≤9223372036854775807 then (some (((⟨#[60]⟩:ByteArray) ++ ((((⟨#[64]⟩:ByteArray) ++ iT) ++ (⟨#[58]⟩:ByteArray)) ++ iE.1)) ++ (⟨#[62]⟩:ByteArray),iE.2)) else (none)) else (none)) else (none)) else (none)) else (none))) else (if 1 + iE.1.size≤9223372036854775807 then (if ((⟨#[60]⟩:ByteArray) ++ iE.1).size + 1≤9223372036854775807 then (some (((⟨#[60]⟩:ByteArray) ++ iE.1) ++ (⟨#[62]⟩:ByteArray),iE.2)) else (none)) else (none))))))=some (r1,r2):=by rw [if_pos rfl] at H;exact H
  clear H
  have H:=H1
  clear H1
  by_cases c4:bg=true
  ·subst c4
   have H1:(some ((⟨#[60,62]⟩:ByteArray),0))=some (r1,r2):=by rw [if_pos rfl] at H;exact H
   clear H
   have H:=H1
   clear H1
   simp only [Option.some.injEq,Prod.mk.injEq] at H
   obtain ⟨rfl,rfl⟩:=H
   go_enter Tryz.func21,Tryz.ntmps21
   go_wp2_with (first|((with_reducible refine cC (N:=1) rfl ?_);refine b9 ?hg (N:=1) ?hd (cs:=#[.bool true,.slice iI dO.length iJ,.string bJ,.string eD,.bool bO]) (t:=32) ?hr ?_;(case hd=>rfl);(case hg=>rfl);(case hr=>first|(go_simp;done)|(go_simp;rfl));intro fJ hg w5 cJ hb;have bB:=ah.mk (ay bN hb);have bL:=ah.mk (cJ);have bY:=ah.mk ((dz:w.heap.size≤fJ));have cK:=ah.mk ((dz:w.heap.size≤fJ));clear HB;have HB:=bB;have dg:=bL;have Sv:=bY;have Lq:=cK;clear bB bL bY cK;clear hb cJ hg;have VB:w5.cell? ⟨fJ,0,none⟩=some (.bool true):=(af dg.out 0).trans rfl;have VC:w5.cell? ⟨fJ,1,none⟩=some (.slice iI dO.length iJ):=(af dg.out 1).trans rfl;have acw:w5.cell? ⟨fJ,2,none⟩=some (.string bJ):=(af dg.out 2).trans rfl;have acy:w5.cell? ⟨fJ,3,none⟩=some (.string eD):=(af dg.out 3).trans rfl;have acz:w5.cell? ⟨fJ,4,none⟩=some (.bool bO):=(af dg.out 4).trans rfl;have VD:=aa dg.out 0;have VE:=aa dg.out 1;have acA:=aa dg.out 2;have acB:=aa dg.out 3;have acC:=aa dg.out 4)|((with_reducible refine aQ (f:=20) rfl ?_);refine cu (some 8) rfl rfl Tryz.func20 av rfl #[.agg #[.bool true,.slice iI dO.length iJ,.string bJ,.string eD,.bool bO]] rfl cT ?_;(with_reducible refine (gy.calls k true _ _ dO bJ eD bO true _ ?aX ?bT ?eo A2.out).mono ?_);(case aX=>repeat (first|exact (Kd.fy xg.out HB.out)|(with_reducible refine Kd.eJ ?_ _)|(with_reducible refine Kd.eK ?_ _)|(with_reducible refine Kd.fR ?_)));(case bT=>exact Aj.out);(case eo=>exact aU.below HG.out l5);rintro e w7 ⟨rfl,hb⟩;refine ⟨_,rfl,?_⟩;have bB:=ah.mk (aM (g:=fJ) (o:= .cells #[.bool true,.slice iI dO.length iJ,.string bJ,.string eD,.bool bO] 32 (0,0)) wX hb);have bL:=ah.mk (ay l5 hb);clear dg;clear HB;have dg:=bB;have HB:=bL;clear bB bL;(try clear hb);(try clear hb2);(try clear hk);(try clear hi);have xh:w7.cell? ⟨fJ,0,none⟩=some (.bool true):=(af dg.out 0).trans rfl;have xj:w7.cell? ⟨fJ,1,none⟩=some (.slice iI dO.length iJ):=(af dg.out 1).trans rfl;have BZ:w7.cell? ⟨fJ,2,none⟩=some (.string bJ):=(af dg.out 2).trans rfl;have Fl:w7.cell? ⟨fJ,3,none⟩=some (.string eD):=(af dg.out 3).trans rfl;have Fm:w7.cell? ⟨fJ,4,none⟩=some (.bool bO):=(af dg.out 4).trans rfl;have xk:=aa dg.out 0;have xm:=aa dg.out 1;have B0:=aa dg.out 2;have Fp:=aa dg.out 3;have Fq:=aa dg.out 4))
   go_ret2
   exact ⟨cR,l5⟩
  ·replace c4:=Bool.eq_false_iff.mpr c4
   subst c4
   have H1:(if eD.toList=([]:List UInt8) then (some ((⟨#[60,112,111,115,116,109,97,115,116,101,114,62]⟩:ByteArray),0)) else ((iL.f k bJ eD bO).bind fun iE=>(if (dO.length:Int) > 0 then ((strings_Join.f dO (⟨#[44,64]⟩:ByteArray)).bind fun iT=>(if 1 + iT.size≤9223372036854775807 then (if ((⟨#[64]⟩:ByteArray) ++ iT).size + 1≤9223372036854775807 then (if (((⟨#[64]⟩:ByteArray) ++ iT) ++ (⟨#[58]⟩:ByteArray)).size + iE.1.size≤9223372036854775807 then (if 1 + ((((⟨#[64]⟩:ByteArray) ++ iT) ++ (⟨#[58]⟩:ByteArray)) ++ iE.1).size≤9223372036854775807 then (if ((⟨#[60]⟩:ByteArray) ++ ((((⟨#[64]⟩:ByteArray) ++ iT) ++ (⟨#[58]⟩:ByteArray)) ++ iE.1)).size + 1≤9223372036854775807 then (some (((⟨#[60]⟩:ByteArray) ++ ((((⟨#[64]⟩:ByteArray) ++ iT) ++ (⟨#[58]⟩:ByteArray)) ++ iE.1)) ++ (⟨#[62]⟩:ByteArray),iE.2)) else (none)) else (none)) else (none)) else (none)) else (none))) else (if 1 + iE.1.size≤9223372036854775807 then (if ((⟨#[60]⟩:ByteArray) ++ iE.1).size + 1≤9223372036854775807 then (some (((⟨#[60]⟩:ByteArray) ++ iE.1) ++ (⟨#[62]⟩:ByteArray),iE.2)) else (none)) else (none)))))=some (r1,r2):=by rw [if_neg (show ¬ (false=true) by decide)] at H;exact H
   clear H
   have H:=H1
   clear H1
   by_cases c9:eD.toList=([]:List UInt8)
   ·rw [if_pos c9] at H
    have Ta:(eD.toList == ([]:List UInt8))=true:=beq_iff_eq.mpr c9
    have ad4:(eD.toList != ([]:List UInt8))=false:=bne_eq_false_iff_eq.mpr c9
    clear c9
    simp only [Option.some.injEq,Prod.mk.injEq] at H
    obtain ⟨rfl,rfl⟩:=H
    go_enter Tryz.func21,Tryz.ntmps21
    go_wp2_with (first|((with_reducible refine cC (N:=1) rfl ?_);refine b9 ?hg (N:=1) ?hd (cs:=#[.bool false,.slice iI dO.length iJ,.string bJ,.string eD,.bool bO]) (t:=32) ?hr ?_;(case hd=>rfl);(case hg=>rfl);(case hr=>first|(go_simp;done)|(go_simp;rfl));intro fJ hg uk cJ hb;have bB:=ah.mk (ay bN hb);have bL:=ah.mk (cJ);have bY:=ah.mk ((dz:w.heap.size≤fJ));have cK:=ah.mk ((dz:w.heap.size≤fJ));clear HB;have HB:=bB;have dg:=bL;have Sv:=bY;have Lq:=cK;clear bB bL bY cK;clear hb cJ hg;have tD:uk.cell? ⟨fJ,0,none⟩=some (.bool false):=(af dg.out 0).trans rfl;have tE:uk.cell? ⟨fJ,1,none⟩=some (.slice iI dO.length iJ):=(af dg.out 1).trans rfl;have tF:uk.cell? ⟨fJ,2,none⟩=some (.string bJ):=(af dg.out 2).trans rfl;have yh:uk.cell? ⟨fJ,3,none⟩=some (.string eD):=(af dg.out 3).trans rfl;have yj:uk.cell? ⟨fJ,4,none⟩=some (.bool bO):=(af dg.out 4).trans rfl;have tG:=aa dg.out 0;have tH:=aa dg.out 1;have tI:=aa dg.out 2;have yl:=aa dg.out 3;have ym:=aa dg.out 4)|((with_reducible refine aQ (f:=20) rfl ?_);refine cu (some 8) rfl rfl Tryz.func20 av rfl #[.agg #[.bool false,.slice iI dO.length iJ,.string bJ,.string eD,.bool bO]] rfl cT ?_;(with_reducible refine (gy.calls k false _ _ dO bJ eD bO true _ ?aX ?bT ?eo A2.out).mono ?_);(case aX=>repeat (first|exact (Kd.fy xg.out HB.out)|(with_reducible refine Kd.eJ ?_ _)|(with_reducible refine Kd.eK ?_ _)|(with_reducible refine Kd.fR ?_)));(case bT=>exact Aj.out);(case eo=>exact aU.below HG.out l5);rintro e Rv ⟨rfl,hb⟩;refine ⟨_,rfl,?_⟩;have bB:=ah.mk (aM (g:=fJ) (o:= .cells #[.bool false,.slice iI dO.length iJ,.string bJ,.string eD,.bool bO] 32 (0,0)) wX hb);have bL:=ah.mk (ay l5 hb);clear dg;clear HB;have dg:=bB;have HB:=bL;clear bB bL;(try clear hb);(try clear hb2);(try clear hk);(try clear hi);have qN:Rv.cell? ⟨fJ,0,none⟩=some (.bool false):=(af dg.out 0).trans rfl;have qO:Rv.cell? ⟨fJ,1,none⟩=some (.slice iI dO.length iJ):=(af dg.out 1).trans rfl;have vq:Rv.cell? ⟨fJ,2,none⟩=some (.string bJ):=(af dg.out 2).trans rfl;have D3:Rv.cell? ⟨fJ,3,none⟩=some (.string eD):=(af dg.out 3).trans rfl;have D4:Rv.cell? ⟨fJ,4,none⟩=some (.bool bO):=(af dg.out 4).trans rfl;have qP:=aa dg.out 0;have qQ:=aa dg.out 1;have vv:=aa dg.out 2;have D5:=aa dg.out 3;have D6:=aa dg.out 4))
    go_ret2
    exact ⟨cR,l5⟩
   ·rw [if_neg c9] at H
    have Ta:(eD.toList == ([]:List UInt8))=false:=beq_eq_false_iff_ne.mpr c9
    have ad4:(eD.toList != ([]:List UInt8))=true:=bne_iff_ne.mpr c9
    replace H:=Option.bind_eq_some_iff.mp H
    obtain ⟨⟨oO,Wv⟩,Bi,H⟩:=H
    replace H:(if (dO.length:Int) > 0 then ((strings_Join.f dO (⟨#[44,64]⟩:ByteArray)).bind fun iT=>(if 1 + iT.size≤9223372036854775807 then (if ((⟨#[64]⟩:ByteArray) ++ iT).size + 1≤9223372036854775807 then (if (((⟨#[64]⟩:ByteArray) ++ iT) ++ (⟨#[58]⟩:ByteArray)).size + oO.size≤9223372036854775807 then (if 1 + ((((⟨#[64]⟩:ByteArray) ++ iT) ++ (⟨#[58]⟩:ByteArray)) ++ oO).size≤9223372036854775807 then (if ((⟨#[60]⟩:ByteArray) ++ ((((⟨#[64]⟩:ByteArray) ++ iT) ++ (⟨#[58]⟩:ByteArray)) ++ oO)).size + 1≤9223372036854775807 then (some (((⟨#[60]⟩:ByteArray) ++ ((((⟨#[64]⟩:ByteArray) ++ iT) ++ (⟨#[58]⟩:ByteArray)) ++ oO)) ++ (⟨#[62]⟩:ByteArray),Wv)) else (none)) else (none)) else (none)) else (none)) else (none))) else (if 1 + oO.size≤9223372036854775807 then (if ((⟨#[60]⟩:ByteArray) ++ oO).size + 1≤9223372036854775807 then (some (((⟨#[60]⟩:ByteArray) ++ oO) ++ (⟨#[62]⟩:ByteArray),Wv)) else (none)) else (none)))=some (r1,r2):=H
    have Vy:=ah.mk Bi
    clear Bi
    by_cases c15:(dO.length:Int) > 0
    ·rw [if_pos c15] at H
     have FD:decide (0 < (dO.length:Int))=true:=decide_eq_true c15
     have Ru:decide (0 < dO.length)=true:=decide_eq_true aq
     clear c15
     replace H:=Option.bind_eq_some_iff.mp H
     obtain ⟨iT,Mx,H⟩:=H
     replace H:(if 1 + iT.size≤9223372036854775807 then (if ((⟨#[64]⟩:ByteArray) ++ iT).size + 1≤9223372036854775807 then (if (((⟨#[64]⟩:ByteArray) ++ iT) ++ (⟨#[58]⟩:ByteArray)).size + oO.size≤9223372036854775807 then (if 1 + ((((⟨#[64]⟩:ByteArray) ++ iT) ++ (⟨#[58]⟩:ByteArray)) ++ oO).size≤9223372036854775807 then (if ((⟨#[60]⟩:ByteArray) ++ ((((⟨#[64]⟩:ByteArray) ++ iT) ++ (⟨#[58]⟩:ByteArray)) ++ oO)).size + 1≤9223372036854775807 then (some (((⟨#[60]⟩:ByteArray) ++ ((((⟨#[64]⟩:ByteArray) ++ iT) ++ (⟨#[58]⟩:ByteArray)) ++ oO)) ++ (⟨#[62]⟩:ByteArray),Wv)) else (none)) else (none)) else (none)) else (none)) else (none))=some (r1,r2):=H
     have A16:=ah.mk Mx
     clear Mx
     by_cases c17: 1 + iT.size≤9223372036854775807
     ·rw [if_pos c17] at H
      have Rx:=eq_true c17
      have apm:decide (1 + iT.size≤9223372036854775807)=true:=decide_eq_true c17
      try have apn:(9223372036854775807 < 1 + iT.size)=False:=eq_false (Nat.not_lt.2 c17)
      by_cases c18:((⟨#[64]⟩:ByteArray) ++ iT).size + 1≤9223372036854775807
      ·rw [if_pos c18] at H
       have ae5:=eq_true c18
       have apo:decide (((⟨#[64]⟩:ByteArray) ++ iT).size + 1≤9223372036854775807)=true:=decide_eq_true c18
       try have ae6:(9223372036854775807 < ((⟨#[64]⟩:ByteArray) ++ iT).size + 1)=False:=eq_false (Nat.not_lt.2 c18)
       try (have aaG:=ae6;simp only [ByteArray.size_append] at aaG)
       try have apq:(9223372036854775807 < (1 + iT.size) + 1)=False:=aaG
       by_cases c19:(((⟨#[64]⟩:ByteArray) ++ iT) ++ (⟨#[58]⟩:ByteArray)).size + oO.size≤9223372036854775807
       ·rw [if_pos c19] at H
        have Sc:=eq_true c19
        have Wd:decide ((((⟨#[64]⟩:ByteArray) ++ iT) ++ (⟨#[58]⟩:ByteArray)).size + oO.size≤9223372036854775807)=true:=decide_eq_true c19
        try have ae7:(9223372036854775807 < (((⟨#[64]⟩:ByteArray) ++ iT) ++ (⟨#[58]⟩:ByteArray)).size + oO.size)=False:=eq_false (Nat.not_lt.2 c19)
        try (have aaH:=ae7;simp only [ByteArray.size_append] at aaH)
        try have apr:(9223372036854775807 < (1 + iT.size + 1) + oO.size)=False:=aaH
        by_cases c20: 1 + ((((⟨#[64]⟩:ByteArray) ++ iT) ++ (⟨#[58]⟩:ByteArray)) ++ oO).size≤9223372036854775807
        ·rw [if_pos c20] at H
         have He:=eq_true c20
         have ae8:decide (1 + ((((⟨#[64]⟩:ByteArray) ++ iT) ++ (⟨#[58]⟩:ByteArray)) ++ oO).size≤9223372036854775807)=true:=decide_eq_true c20
         try have aaI:(9223372036854775807 < 1 + ((((⟨#[64]⟩:ByteArray) ++ iT) ++ (⟨#[58]⟩:ByteArray)) ++ oO).size)=False:=eq_false (Nat.not_lt.2 c20)
         try (have aaJ:=aaI;simp only [ByteArray.size_append] at aaJ)
         try have aps:(9223372036854775807 < 1 + (1 + iT.size + 1 + oO.size))=False:=aaJ
         by_cases c21:((⟨#[60]⟩:ByteArray) ++ ((((⟨#[64]⟩:ByteArray) ++ iT) ++ (⟨#[58]⟩:ByteArray)) ++ oO)).size + 1≤9223372036854775807
         ·rw [if_pos c21] at H
          have Qw:=eq_true c21
          have Ww:decide (((⟨#[60]⟩:ByteArray) ++ ((((⟨#[64]⟩:ByteArray) ++ iT) ++ (⟨#[58]⟩:ByteArray)) ++ oO)).size + 1≤9223372036854775807)=true:=decide_eq_true c21
          try have Sw:(9223372036854775807 < ((⟨#[60]⟩:ByteArray) ++ ((((⟨#[64]⟩:ByteArray) ++ iT) ++ (⟨#[58]⟩:ByteArray)) ++ oO)).size + 1)=False:=eq_false (Nat.not_lt.2 c21)
          try (have MS:=Sw;simp only [ByteArray.size_append] at MS)
          try have ae9:(9223372036854775807 < (1 + (1 + iT.size + 1 + oO.size)) + 1)=False:=MS
          simp only [Option.some.injEq,Prod.mk.injEq] at H
          obtain ⟨rfl,rfl⟩:=H
          go_enter Tryz.func21,Tryz.ntmps21
          go_wp2_with (first|((with_reducible refine cC (N:=1) rfl ?_);refine b9 ?hg (N:=1) ?hd (cs:=#[.bool false,.slice iI dO.length iJ,.string bJ,.string eD,.bool bO]) (t:=32) ?hr ?_;(case hd=>rfl);(case hg=>rfl);(case hr=>first|(go_simp;done)|(go_simp;rfl));intro fJ hg Gx cJ hb;have bB:=ah.mk (ay bN hb);have bL:=ah.mk (cJ);have bY:=ah.mk ((dz:w.heap.size≤fJ));have cK:=ah.mk ((dz:w.heap.size≤fJ));clear HB;have HB:=bB;have dg:=bL;have Sv:=bY;have Lq:=cK;clear bB bL bY cK;clear hb cJ hg;have EL:Gx.cell? ⟨fJ,0,none⟩=some (.bool false):=(af dg.out 0).trans rfl;have EM:Gx.cell? ⟨fJ,1,none⟩=some (.slice iI dO.length iJ):=(af dg.out 1).trans rfl;have EN:Gx.cell? ⟨fJ,2,none⟩=some (.string bJ):=(af dg.out 2).trans rfl;have Sm:Gx.cell? ⟨fJ,3,none⟩=some (.string eD):=(af dg.out 3).trans rfl;have Sn:Gx.cell? ⟨fJ,4,none⟩=some (.bool bO):=(af dg.out 4).trans rfl;have EO:=aa dg.out 0;have EP:=aa dg.out 1;have ER:=aa dg.out 2;have Sp:=aa dg.out 3;have Sq:=aa dg.out 4)|((with_reducible refine aQ (f:=20) rfl ?_);refine cu (some 8) rfl rfl Tryz.func20 av rfl #[.agg #[.bool false,.slice iI dO.length iJ,.string bJ,.string eD,.bool bO]] rfl cT ?_;(with_reducible refine (gy.calls k false _ _ dO bJ eD bO true _ ?aX ?bT ?eo A2.out).mono ?_);(case aX=>repeat (first|exact (Kd.fy xg.out HB.out)|(with_reducible refine Kd.eJ ?_ _)|(with_reducible refine Kd.eK ?_ _)|(with_reducible refine Kd.fR ?_)));(case bT=>exact Aj.out);(case eo=>exact aU.below HG.out l5);rintro e KW ⟨rfl,hb⟩;refine ⟨_,rfl,?_⟩;have bB:=ah.mk (aM (g:=fJ) (o:= .cells #[.bool false,.slice iI dO.length iJ,.string bJ,.string eD,.bool bO] 32 (0,0)) wX hb);have bL:=ah.mk (ay l5 hb);clear dg;clear HB;have dg:=bB;have HB:=bL;clear bB bL;(try clear hb);(try clear hb2);(try clear hk);(try clear hi);have ud:KW.cell? ⟨fJ,0,none⟩=some (.bool false):=(af dg.out 0).trans rfl;have ue:KW.cell? ⟨fJ,1,none⟩=some (.slice iI dO.length iJ):=(af dg.out 1).trans rfl;have uf:KW.cell? ⟨fJ,2,none⟩=some (.string bJ):=(af dg.out 2).trans rfl;have yC:KW.cell? ⟨fJ,3,none⟩=some (.string eD):=(af dg.out 3).trans rfl;have yD:KW.cell? ⟨fJ,4,none⟩=some (.bool bO):=(af dg.out 4).trans rfl;have ug:=aa dg.out 0;have uh:=aa dg.out 1;have uj:=aa dg.out 2;have yE:=aa dg.out 3;have yF:=aa dg.out 4)|((with_reducible refine aQ (f:=22) rfl ?_);refine cu (some 21) rfl rfl Tryz.func22 av rfl #[.agg #[.string bJ,.string eD,.bool bO]] rfl cT ?_;(with_reducible refine (iL.calls k bJ eD bO oO Wv _ ?aX Vy.out).mono ?_);(case aX=>exact aU.below HG.out l5);rintro e zK ⟨rfl,hb⟩;refine ⟨_,rfl,?_⟩;have bB:=ah.mk (aM (g:=fJ) (o:= .cells #[.bool false,.slice iI dO.length iJ,.string bJ,.string eD,.bool bO] 32 (0,0)) wX hb);have bL:=ah.mk (ay l5 hb);clear dg;clear HB;have dg:=bB;have HB:=bL;clear bB bL;(try clear hb);(try clear hb2);(try clear hk);(try clear hi);have Qy:zK.cell? ⟨fJ,0,none⟩=some (.bool false):=(af dg.out 0).trans rfl;have Qz:zK.cell? ⟨fJ,1,none⟩=some (.slice iI dO.length iJ):=(af dg.out 1).trans rfl;have XN:zK.cell? ⟨fJ,2,none⟩=some (.string bJ):=(af dg.out 2).trans rfl;have XO:zK.cell? ⟨fJ,3,none⟩=some (.string eD):=(af dg.out 3).trans rfl;have XP:zK.cell? ⟨fJ,4,none⟩=some (.bool bO):=(af dg.out 4).trans rfl;have QA:=aa dg.out 0;have QB:=aa dg.out 1;have XQ:=aa dg.out 2;have XR:=aa dg.out 3;have XS:=aa dg.out 4)|((with_reducible refine aQ (f:=66) rfl ?_);refine cu (some 30) rfl rfl Tryz.func66 av rfl #[.slice iI dO.length iJ,.string (⟨#[44,64]⟩:ByteArray)] rfl cT ?_;(with_reducible refine (strings_Join.calls _ _ dO (⟨#[44,64]⟩:ByteArray) iT _ ?aX ?bT A16.out).mono ?_);(case aX=>repeat (first|exact (Kd.fy xg.out HB.out)|(with_reducible refine Kd.eJ ?_ _)|(with_reducible refine Kd.eK ?_ _)|(with_reducible refine Kd.fR ?_)));(case bT=>exact Aj.out);rintro e VP ⟨rfl,hb⟩;refine ⟨_,rfl,?_⟩;have bB:=ah.mk (aM (g:=fJ) (o:= .cells #[.bool false,.slice iI dO.length iJ,.string bJ,.string eD,.bool bO] 32 (0,0)) wX hb);have bL:=ah.mk (ay l5 hb);clear dg;clear HB;have dg:=bB;have HB:=bL;clear bB bL;(try clear hb);(try clear hb2);(try clear hk);(try clear hi)))
          go_ret2
          exact ⟨cR,l5⟩
         ·rw [if_neg c21] at H
          exact absurd H bn
        ·rw [if_neg c20] at H
         exact absurd H bn
       ·rw [if_neg c19] at H
        exact absurd H bn
      ·rw [if_neg c18] at H
       exact absurd H bn
     ·rw [if_neg c17] at H
      exact absurd H bn
    ·rw [if_neg c15] at H
     have FD:decide (0 < (dO.length:Int))=false:=decide_eq_false c15
     have Ru:decide (0 < dO.length)=false:=decide_eq_false aq
     clear c15
     by_cases T7: 1 + oO.size≤9223372036854775807
     ·rw [if_pos T7] at H
      have aal:=eq_true T7
      have apt:decide (1 + oO.size≤9223372036854775807)=true:=decide_eq_true T7
      try have apu:(9223372036854775807 < 1 + oO.size)=False:=eq_false (Nat.not_lt.2 T7)
      by_cases Ou:((⟨#[60]⟩:ByteArray) ++ oO).size + 1≤9223372036854775807
      ·rw [if_pos Ou] at H
       have adT:=eq_true Ou
       have apv:decide (((⟨#[60]⟩:ByteArray) ++ oO).size + 1≤9223372036854775807)=true:=decide_eq_true Ou
       try have afa:(9223372036854775807 < ((⟨#[60]⟩:ByteArray) ++ oO).size + 1)=False:=eq_false (Nat.not_lt.2 Ou)
       try (have aaK:=afa;simp only [ByteArray.size_append] at aaK)
       try have apw:(9223372036854775807 < (1 + oO.size) + 1)=False:=aaK
       simp only [Option.some.injEq,Prod.mk.injEq] at H
       obtain ⟨rfl,rfl⟩:=H
       go_enter Tryz.func21,Tryz.ntmps21
       go_wp2_with (first|((with_reducible refine cC (N:=1) rfl ?_);refine b9 ?hg (N:=1) ?hd (cs:=#[.bool false,.slice iI dO.length iJ,.string bJ,.string eD,.bool bO]) (t:=32) ?hr ?_;(case hd=>rfl);(case hg=>rfl);(case hr=>first|(go_simp;done)|(go_simp;rfl));intro fJ hg w31 cJ hb;have bB:=ah.mk (ay bN hb);have bL:=ah.mk (cJ);have bY:=ah.mk ((dz:w.heap.size≤fJ));have cK:=ah.mk ((dz:w.heap.size≤fJ));clear HB;have HB:=bB;have dg:=bL;have Sv:=bY;have Lq:=cK;clear bB bL bY cK;clear hb cJ hg;have aiL:w31.cell? ⟨fJ,0,none⟩=some (.bool false):=(af dg.out 0).trans rfl;have aiM:w31.cell? ⟨fJ,1,none⟩=some (.slice iI dO.length iJ):=(af dg.out 1).trans rfl;have aiN:w31.cell? ⟨fJ,2,none⟩=some (.string bJ):=(af dg.out 2).trans rfl;have aiO:w31.cell? ⟨fJ,3,none⟩=some (.string eD):=(af dg.out 3).trans rfl;have aiP:w31.cell? ⟨fJ,4,none⟩=some (.bool bO):=(af dg.out 4).trans rfl;have aiQ:=aa dg.out 0;have aiR:=aa dg.out 1;have aiS:=aa dg.out 2;have aiT:=aa dg.out 3;have aiU:=aa dg.out 4)|((with_reducible refine aQ (f:=20) rfl ?_);refine cu (some 8) rfl rfl Tryz.func20 av rfl #[.agg #[.bool false,.slice iI dO.length iJ,.string bJ,.string eD,.bool bO]] rfl cT ?_;(with_reducible refine (gy.calls k false _ _ dO bJ eD bO true _ ?aX ?bT ?eo A2.out).mono ?_);(case aX=>repeat (first|exact (Kd.fy xg.out HB.out)|(with_reducible refine Kd.eJ ?_ _)|(with_reducible refine Kd.eK ?_ _)|(with_reducible refine Kd.fR ?_)));(case bT=>exact Aj.out);(case eo=>exact aU.below HG.out l5);rintro e NN ⟨rfl,hb⟩;refine ⟨_,rfl,?_⟩;have bB:=ah.mk (aM (g:=fJ) (o:= .cells #[.bool false,.slice iI dO.length iJ,.string bJ,.string eD,.bool bO] 32 (0,0)) wX hb);have bL:=ah.mk (ay l5 hb);clear dg;clear HB;have dg:=bB;have HB:=bL;clear bB bL;(try clear hb);(try clear hb2);(try clear hk);(try clear hi);have Kj:NN.cell? ⟨fJ,0,none⟩=some (.bool false):=(af dg.out 0).trans rfl;have Kk:NN.cell? ⟨fJ,1,none⟩=some (.slice iI dO.length iJ):=(af dg.out 1).trans rfl;have Kl:NN.cell? ⟨fJ,2,none⟩=some (.string bJ):=(af dg.out 2).trans rfl;have Zu:NN.cell? ⟨fJ,3,none⟩=some (.string eD):=(af dg.out 3).trans rfl;have Zv:NN.cell? ⟨fJ,4,none⟩=some (.bool bO):=(af dg.out 4).trans rfl;have Km:=aa dg.out 0;have Kn:=aa dg.out 1;have Ko:=aa dg.out 2;have Zw:=aa dg.out 3;have Zx:=aa dg.out 4)|((with_reducible refine aQ (f:=22) rfl ?_);refine cu (some 21) rfl rfl Tryz.func22 av rfl #[.agg #[.string bJ,.string eD,.bool bO]] rfl cT ?_;(with_reducible refine (iL.calls k bJ eD bO oO Wv _ ?aX Vy.out).mono ?_);(case aX=>exact aU.below HG.out l5);rintro e Sy ⟨rfl,hb⟩;refine ⟨_,rfl,?_⟩;have bB:=ah.mk (aM (g:=fJ) (o:= .cells #[.bool false,.slice iI dO.length iJ,.string bJ,.string eD,.bool bO] 32 (0,0)) wX hb);have bL:=ah.mk (ay l5 hb);clear dg;clear HB;have dg:=bB;have HB:=bL;clear bB bL;(try clear hb);(try clear hb2);(try clear hk);(try clear hi);have yG:Sy.cell? ⟨fJ,0,none⟩=some (.bool false):=(af dg.out 0).trans rfl;have yH:Sy.cell? ⟨fJ,1,none⟩=some (.slice iI dO.length iJ):=(af dg.out 1).trans rfl;have yI:Sy.cell? ⟨fJ,2,none⟩=some (.string bJ):=(af dg.out 2).trans rfl;have JW:Sy.cell? ⟨fJ,3,none⟩=some (.string eD):=(af dg.out 3).trans rfl;have JX:Sy.cell? ⟨fJ,4,none⟩=some (.bool bO):=(af dg.out 4).trans rfl;have yJ:=aa dg.out 0;have yK:=aa dg.out 1;have yL:=aa dg.out 2;have JY:=aa dg.out 3;have JZ:=aa dg.out 4))
       go_ret2
       exact ⟨cR,l5⟩
      ·rw [if_neg Ou] at H
       exact absurd H bn
     ·rw [if_neg T7] at H
      exact absurd H bn
 ·replace c3:=Bool.eq_false_iff.mpr c3
  subst c3
  have H1:(some ((⟨#[]⟩:ByteArray),150))=some (r1,r2):=by rw [if_neg (show ¬ (false=true) by decide)] at H;exact H
  clear H
  have H:=H1
  clear H1
  simp only [Option.some.injEq,Prod.mk.injEq] at H
  obtain ⟨rfl,rfl⟩:=H
  go_enter Tryz.func21,Tryz.ntmps21
  go_wp2_with (first|((with_reducible refine cC (N:=1) rfl ?_);refine b9 ?hg (N:=1) ?hd (cs:=#[.bool bg,.slice iI dO.length iJ,.string bJ,.string eD,.bool bO]) (t:=32) ?hr ?_;(case hd=>rfl);(case hg=>rfl);(case hr=>first|(go_simp;done)|(go_simp;rfl));intro fJ hg w37 cJ hb;have bB:=ah.mk (ay bN hb);have bL:=ah.mk (cJ);have bY:=ah.mk ((dz:w.heap.size≤fJ));have cK:=ah.mk ((dz:w.heap.size≤fJ));clear HB;have HB:=bB;have dg:=bL;have Sv:=bY;have Lq:=cK;clear bB bL bY cK;clear hb cJ hg;have X5:w37.cell? ⟨fJ,0,none⟩=some (.bool bg):=(af dg.out 0).trans rfl;have X6:w37.cell? ⟨fJ,1,none⟩=some (.slice iI dO.length iJ):=(af dg.out 1).trans rfl;have X7:w37.cell? ⟨fJ,2,none⟩=some (.string bJ):=(af dg.out 2).trans rfl;have X8:w37.cell? ⟨fJ,3,none⟩=some (.string eD):=(af dg.out 3).trans rfl;have X9:w37.cell? ⟨fJ,4,none⟩=some (.bool bO):=(af dg.out 4).trans rfl;have Ya:=aa dg.out 0;have Yb:=aa dg.out 1;have Yc:=aa dg.out 2;have Yd:=aa dg.out 3;have Ye:=aa dg.out 4)|((with_reducible refine aQ (f:=20) rfl ?_);refine cu (some 8) rfl rfl Tryz.func20 av rfl #[.agg #[.bool bg,.slice iI dO.length iJ,.string bJ,.string eD,.bool bO]] rfl cT ?_;(with_reducible refine (gy.calls k bg _ _ dO bJ eD bO false _ ?aX ?bT ?eo A2.out).mono ?_);(case aX=>repeat (first|exact (Kd.fy xg.out HB.out)|(with_reducible refine Kd.eJ ?_ _)|(with_reducible refine Kd.eK ?_ _)|(with_reducible refine Kd.fR ?_)));(case bT=>exact Aj.out);(case eo=>exact aU.below HG.out l5);rintro e Zy ⟨rfl,hb⟩;refine ⟨_,rfl,?_⟩;have bB:=ah.mk (aM (g:=fJ) (o:= .cells #[.bool bg,.slice iI dO.length iJ,.string bJ,.string eD,.bool bO] 32 (0,0)) wX hb);have bL:=ah.mk (ay l5 hb);clear dg;clear HB;have dg:=bB;have HB:=bL;clear bB bL;(try clear hb);(try clear hb2);(try clear hk);(try clear hi)))
  go_ret2
  exact ⟨cR,l5⟩
def eH.f (a0:Int):Option (Bool):=if a0=3 then (some true) else (some (a0 == 4))
set_option maxHeartbeats 8000000 in
set_option maxRecDepth 100000 in
theorem eH.calls (a0:Int) (r:Bool) (w:World) (h:eH.f a0=some r):
 Calls Tryz.prog 135 #[.int .u8 a0] w fun e w'=>e= .returned (.bool r)∧kg w w':=by
 have H:(if a0=3 then (some true) else (some (a0 == 4)))=some r:=h
 clear h
 by_cases c2:a0=3
 ·rw [if_pos c2] at H
  have B6:(a0 == 3)=true:=beq_iff_eq.mpr c2
  have OB:(a0 != 3)=false:=bne_eq_false_iff_eq.mpr c2
  clear c2
  obtain rfl:=Option.some.inj H
  go_enter Tryz.func135,Tryz.ntmps135
  go_wp2
  go_ret
  exact ⟨ey,kH⟩
 ·rw [if_neg c2] at H
  have B6:(a0 == 3)=false:=beq_eq_false_iff_ne.mpr c2
  have OB:(a0 != 3)=true:=bne_iff_ne.mpr c2
  obtain rfl:=Option.some.inj H
  go_enter Tryz.func135,Tryz.ntmps135
  go_wp2
  go_ret
  exact ⟨ey,kH⟩
mutual
def cw.j0:Nat→ByteArray→ByteArray→Int→ByteArray→Bool→List ByteArray→ByteArray→ByteArray→Bool→List (ij)→Option (ByteArray)
 | 0,_,_,_,_,_,_,_,_,_,_ =>none
 |k + 1,x3,x4,aiV,aiW,Zz,ZA,ZB,ZC,ZE,Sz=>(kW.f k Zz ZA ZB ZC ZE).bind fun Wx=>(if x4.size + Wx.1.size≤9223372036854775807 then (if x3.size + (x4 ++ Wx.1).size≤9223372036854775807 then (cw.l0 k (x3 ++ (x4 ++ Wx.1)) Sz (Sz.length:Int) 0) else (none)) else (none))
def cw.l0:Nat→ByteArray→List (ij)→Int→Int→Option (ByteArray)
 | 0,_,_,_,_ =>none
 |k + 1,x3,Ue,x41,SA=>if SA < x41 then (if 0≤SA then (if SA < (Ue.length:Int) then (if 1 + ((dL Ue SA).f0).size≤9223372036854775807 then (if x3.size + ((⟨#[32]⟩:ByteArray) ++ ((dL Ue SA).f0)).size≤9223372036854775807 then (if (dL Ue SA).f2=true then (if 1 + ((dL Ue SA).f1).size≤9223372036854775807 then (if (x3 ++ ((⟨#[32]⟩:ByteArray) ++ ((dL Ue SA).f0))).size + ((⟨#[61]⟩:ByteArray) ++ ((dL Ue SA).f1)).size≤9223372036854775807 then (cw.l0 k ((x3 ++ ((⟨#[32]⟩:ByteArray) ++ ((dL Ue SA).f0))) ++ ((⟨#[61]⟩:ByteArray) ++ ((dL Ue SA).f1))) Ue x41 (wrap64 (SA + 1))) else (none)) else (none)) else (cw.l0 k (x3 ++ ((⟨#[32]⟩:ByteArray) ++ ((dL Ue SA).f0))) Ue x41 (wrap64 (SA + 1)))) else (none)) else (none)) else (none)) else (none)) else (some x3)
end
def cw.f (k:Nat) (bg:Int) (bI:ByteArray) (bJ:Bool) (cM:List ByteArray) (bO:ByteArray) (cU:ByteArray) (cV:Bool) (cg:List (ij)):Option (ByteArray):=(kO.f bg).bind fun lS=>((eH.f bg).bind fun MT=>(if MT=true then (if bg=3 then (cw.j0 k lS (⟨#[32,70,82,79,77,58]⟩:ByteArray) bg bI bJ cM bO cU cV cg) else (cw.j0 k lS (⟨#[32,84,79,58]⟩:ByteArray) bg bI bJ cM bO cU cV cg)) else (if bI.toList=([]:List UInt8) then (some lS) else (if 1 + bI.size≤9223372036854775807 then (if lS.size + ((⟨#[32]⟩:ByteArray) ++ bI).size≤9223372036854775807 then (some (lS ++ ((⟨#[32]⟩:ByteArray) ++ bI))) else (none)) else (none)))))
set_option maxHeartbeats 8000000 in
set_option maxRecDepth 100000 in
theorem cw.calls (k:Nat) (bg:Int) (bI:ByteArray) (bJ:Bool) (fk:Option Addr) (fo:Nat) (cM:List ByteArray) (bO:ByteArray) (cU:ByteArray) (cV:Bool) (fC:Option Addr) (fq:Nat) (cg:List (ij)) (r:ByteArray) (w:World) (tv:Kd.C Kd.string w fk cM.length cM) (tA:cM.length≤fo) (tB:Kd.C CF w fC cg.length cg) (tC:cg.length≤fq) (hG:aU w) (h:cw.f k bg bI bJ cM bO cU cV cg=some r):
 Calls Tryz.prog 89 #[.agg #[.int .u8 bg,.string bI,.bool bJ,.slice fk cM.length fo,.string bO,.string cU,.bool cV,.slice fC cg.length fq]] w fun e w'=>e= .returned (.string r)∧Below w.heap.size w w':=by
 have LW:=Tryz.underlying35
 have Oi:=Tryz.underlying32
 have Vq:=Tryz.underlying58
 have nI:=ah.mk tv
 have nJ:=ah.mk tA
 clear tv tA
 have pW:=ah.mk tB
 have sI:=ah.mk tC
 clear tB tC
 have HB:=ah.mk (Below.refl w.heap.size w)
 have HG:=ah.mk hG
 clear hG
 have H:((kO.f bg).bind fun lS=>((eH.f bg).bind fun MT=>(if MT=true then (if bg=3 then (cw.j0 k lS (⟨#[32,70,82,79,77,58]⟩:ByteArray) bg bI bJ cM bO cU cV cg) else (cw.j0 k lS (⟨#[32,84,79,58]⟩:ByteArray) bg bI bJ cM bO cU cV cg)) else (if bI.toList=([]:List UInt8) then (some lS) else (if 1 + bI.size≤9223372036854775807 then (if lS.size + ((⟨#[32]⟩:ByteArray) ++ bI).size≤9223372036854775807 then (some (lS ++ ((⟨#[32]⟩:ByteArray) ++ bI))) else (none)) else (none))))))=some r:=h
 clear h
 replace H:=Option.bind_eq_some_iff.mp H
 obtain ⟨lS,nU,H⟩:=H
 replace H:((eH.f bg).bind fun MT=>(if MT=true then (if bg=3 then (cw.j0 k lS (⟨#[32,70,82,79,77,58]⟩:ByteArray) bg bI bJ cM bO cU cV cg) else (cw.j0 k lS (⟨#[32,84,79,58]⟩:ByteArray) bg bI bJ cM bO cU cV cg)) else (if bI.toList=([]:List UInt8) then (some lS) else (if 1 + bI.size≤9223372036854775807 then (if lS.size + ((⟨#[32]⟩:ByteArray) ++ bI).size≤9223372036854775807 then (some (lS ++ ((⟨#[32]⟩:ByteArray) ++ bI))) else (none)) else (none)))))=some r:=H
 have A2:=ah.mk nU
 clear nU
 replace H:=Option.bind_eq_some_iff.mp H
 obtain ⟨MT,zl,H⟩:=H
 replace H:(if MT=true then (if bg=3 then (cw.j0 k lS (⟨#[32,70,82,79,77,58]⟩:ByteArray) bg bI bJ cM bO cU cV cg) else (cw.j0 k lS (⟨#[32,84,79,58]⟩:ByteArray) bg bI bJ cM bO cU cV cg)) else (if bI.toList=([]:List UInt8) then (some lS) else (if 1 + bI.size≤9223372036854775807 then (if lS.size + ((⟨#[32]⟩:ByteArray) ++ bI).size≤9223372036854775807 then (some (lS ++ ((⟨#[32]⟩:ByteArray) ++ bI))) else (none)) else (none))))=some r:=H
 have A3:=ah.mk zl
 clear zl
 by_cases c4:MT=true
 ·subst c4
  have H1:(if bg=3 then (cw.j0 k lS (⟨#[32,70,82,79,77,58]⟩:ByteArray) bg bI bJ cM bO cU cV cg) else (cw.j0 k lS (⟨#[32,84,79,58]⟩:ByteArray) bg bI bJ cM bO cU cV cg))=some r:=by rw [if_pos rfl] at H;exact H
  clear H
  have H:=H1
  clear H1
  have HC5:=ah.mk H
  clear H
  go_enter Tryz.func89,Tryz.ntmps89
  go_upto_if 27 with (first|((with_reducible refine cC (N:=1) rfl ?_);refine b9 ?hg (N:=1) ?hd (cs:=#[.int .u8 bg,.string bI,.bool bJ,.slice fk cM.length fo,.string bO,.string cU,.bool cV,.slice fC cg.length fq]) (t:=35) ?hr ?_;(case hd=>rfl);(case hg=>rfl);(case hr=>first|(go_simp;done)|(go_simp;rfl));intro eV hg w6 cJ hb;have bB:=ah.mk (ay bN hb);have bL:=ah.mk (cJ);have bY:=ah.mk ((dz:w.heap.size≤eV));have cK:=ah.mk ((dz:w.heap.size≤eV));clear HB;have HB:=bB;have cL:=bL;have aaL:=bY;have Lr:=cK;clear bB bL bY cK;clear hb cJ hg;have Fv:w6.cell? ⟨eV,0,none⟩=some (.int .u8 bg):=(af cL.out 0).trans rfl;have Fw:w6.cell? ⟨eV,1,none⟩=some (.string bI):=(af cL.out 1).trans rfl;have OY:w6.cell? ⟨eV,2,none⟩=some (.bool bJ):=(af cL.out 2).trans rfl;have OZ:w6.cell? ⟨eV,3,none⟩=some (.slice fk cM.length fo):=(af cL.out 3).trans rfl;have O0:w6.cell? ⟨eV,4,none⟩=some (.string bO):=(af cL.out 4).trans rfl;have Wy:w6.cell? ⟨eV,5,none⟩=some (.string cU):=(af cL.out 5).trans rfl;have Wz:w6.cell? ⟨eV,6,none⟩=some (.bool cV):=(af cL.out 6).trans rfl;have WA:w6.cell? ⟨eV,7,none⟩=some (.slice fC cg.length fq):=(af cL.out 7).trans rfl;have Fx:=aa cL.out 0;have Fy:=aa cL.out 1;have O1:=aa cL.out 2;have O2:=aa cL.out 3;have O3:=aa cL.out 4;have WB:=aa cL.out 5;have WC:=aa cL.out 6;have WD:=aa cL.out 7)|((with_reducible refine aQ (f:=38) rfl ?_);refine cu (some 11) rfl rfl Tryz.func38 av rfl #[.int .u8 bg] rfl cT ?_;(with_reducible refine (kO.calls bg lS _ ?aX A2.out).mono ?_);(case aX=>exact aU.below HG.out oc);rintro e w8 ⟨rfl,hb⟩;refine ⟨_,rfl,?_⟩;have bB:=ah.mk (aM (g:=eV) (o:= .cells #[.int .u8 bg,.string bI,.bool bJ,.slice fk cM.length fo,.string bO,.string cU,.bool cV,.slice fC cg.length fq] 35 (0,0)) uU hb);have bL:=ah.mk (ay oc hb);clear cL;clear HB;have cL:=bB;have HB:=bL;clear bB bL;(try clear hb);(try clear hb2);(try clear hk);(try clear hi);have qF:w8.cell? ⟨eV,0,none⟩=some (.int .u8 bg):=(af cL.out 0).trans rfl;have qG:w8.cell? ⟨eV,1,none⟩=some (.string bI):=(af cL.out 1).trans rfl;have xp:w8.cell? ⟨eV,2,none⟩=some (.bool bJ):=(af cL.out 2).trans rfl;have zD:w8.cell? ⟨eV,3,none⟩=some (.slice fk cM.length fo):=(af cL.out 3).trans rfl;have zE:w8.cell? ⟨eV,4,none⟩=some (.string bO):=(af cL.out 4).trans rfl;have K2:w8.cell? ⟨eV,5,none⟩=some (.string cU):=(af cL.out 5).trans rfl;have K3:w8.cell? ⟨eV,6,none⟩=some (.bool cV):=(af cL.out 6).trans rfl;have K4:w8.cell? ⟨eV,7,none⟩=some (.slice fC cg.length fq):=(af cL.out 7).trans rfl;have qH:=aa cL.out 0;have qI:=aa cL.out 1;have xq:=aa cL.out 2;have zF:=aa cL.out 3;have zG:=aa cL.out 4;have K5:=aa cL.out 5;have K6:=aa cL.out 6;have K7:=aa cL.out 7)|((with_reducible refine aQ (f:=135) rfl ?_);refine cu (some 14) rfl rfl Tryz.func135 av rfl #[.int .u8 bg] rfl cT ?_;(with_reducible refine (eH.calls bg true _ A3.out).mono ?_);rintro e w' ⟨rfl,⟨nd,rfl⟩⟩;refine ⟨_,rfl,?_⟩))
  (try simp only [Act.put,List.setIfInBounds_toArray,List.set_cons_zero,List.set_cons_succ])
  go_cut [4] (fun v4 wc=>∃ (kq:Nat) (Bw:ByteArray),v4= .string Bw∧ah (cw.j0 kq lS Bw bg bI bJ cM bO cU cV cg=some r)∧ah (kq≤k)∧ah (wc.heap[eV]? =some (.cells #[.int .u8 bg,.string bI,.bool bJ,(.slice fk cM.length fo),.string bO,.string cU,.bool cV,(.slice fC cg.length fq)] 35 (0,0)))∧ah (Below w.heap.size w wc))
  case first=>
   have H:=HC5.out
   clear HC5
   by_cases c10:bg=3
   ·rw [if_pos c10] at H
    have pV:(bg == 3)=true:=beq_iff_eq.mpr c10
    have zm:(bg != 3)=false:=bne_eq_false_iff_eq.mpr c10
    clear c10
    (first|rw [pV]|(simp only [dx,dA];rw [pV])|skip)
    have H':=ah.mk H
    clear H
    go_wp2
    go_meet
    case rel=>exact ⟨_,((⟨#[32,70,82,79,77,58]⟩:ByteArray)),ey,H',⟨lU⟩,⟨uU⟩,⟨oc⟩⟩
   ·rw [if_neg c10] at H
    have pV:(bg == 3)=false:=beq_eq_false_iff_ne.mpr c10
    have zm:(bg != 3)=true:=bne_iff_ne.mpr c10
    (first|rw [pV]|(simp only [dx,dA];rw [pV])|skip)
    have H':=ah.mk H
    clear H
    go_wp2
    go_meet
    case rel=>exact ⟨_,((⟨#[32,84,79,58]⟩:ByteArray)),ey,H',⟨lU⟩,⟨uU⟩,⟨oc⟩⟩
  case rest=>
   clear HC5
   try clear c1
   try clear p2
   try clear c3
   try clear c4
   try clear c8
   try clear c10
   try clear pV
   try clear zm
   try clear Fv
   try clear Fw
   try clear OY
   try clear OZ
   try clear O0
   try clear Wy
   try clear Wz
   try clear WA
   try clear qF
   try clear qG
   try clear xp
   try clear zD
   try clear zE
   try clear K2
   try clear K3
   try clear K4
   try clear Fx
   try clear Fy
   try clear O1
   try clear O2
   try clear O3
   try clear WB
   try clear WC
   try clear WD
   try clear qH
   try clear qI
   try clear xq
   try clear zF
   try clear zG
   try clear K5
   try clear K6
   try clear K7
   obtain ⟨kq,Bw,rfl,HA,HJ4,cL,HB⟩:=hcut
   cases kq with
   |zero=>exact absurd HA.out (by simp [cw.j0])
   |succ kj4=>
    have H:=HA.out
    clear HA
    simp only [cw.j0] at H
    replace H:=Option.bind_eq_some_iff.mp H
    obtain ⟨⟨Dy,am8⟩,MH,H⟩:=H
    replace H:(if Bw.size + Dy.size≤9223372036854775807 then (if lS.size + (Bw ++ Dy).size≤9223372036854775807 then (cw.l0 kj4 (lS ++ (Bw ++ Dy)) cg (cg.length:Int) 0) else (none)) else (none))=some r:=H
    have A11:=ah.mk MH
    clear MH
    by_cases c12:Bw.size + Dy.size≤9223372036854775807
    ·rw [if_pos c12] at H
     have CN:=eq_true c12
     have L6:decide (Bw.size + Dy.size≤9223372036854775807)=true:=decide_eq_true c12
     try have afb:(9223372036854775807 < Bw.size + Dy.size)=False:=eq_false (Nat.not_lt.2 c12)
     by_cases c13:lS.size + (Bw ++ Dy).size≤9223372036854775807
     ·rw [if_pos c13] at H
      have FJ:=eq_true c13
      have Mg:decide (lS.size + (Bw ++ Dy).size≤9223372036854775807)=true:=decide_eq_true c13
      try have aaM:(9223372036854775807 < lS.size + (Bw ++ Dy).size)=False:=eq_false (Nat.not_lt.2 c13)
      try (have aaN:=aaM;simp only [ByteArray.size_append] at aaN)
      try have apx:(9223372036854775807 < lS.size + (Bw.size + Dy.size))=False:=aaN
      have H':=ah.mk H
      clear H
      have rP:wc.cell? ⟨eV,0,none⟩=some (.int .u8 bg):=(af cL.out 0).trans rfl
      have rQ:wc.cell? ⟨eV,1,none⟩=some (.string bI):=(af cL.out 1).trans rfl
      have tJ:wc.cell? ⟨eV,2,none⟩=some (.bool bJ):=(af cL.out 2).trans rfl
      have tK:wc.cell? ⟨eV,3,none⟩=some (.slice fk cM.length fo):=(af cL.out 3).trans rfl
      have tL:wc.cell? ⟨eV,4,none⟩=some (.string bO):=(af cL.out 4).trans rfl
      have tM:wc.cell? ⟨eV,5,none⟩=some (.string cU):=(af cL.out 5).trans rfl
      have tO:wc.cell? ⟨eV,6,none⟩=some (.bool cV):=(af cL.out 6).trans rfl
      have tP:wc.cell? ⟨eV,7,none⟩=some (.slice fC cg.length fq):=(af cL.out 7).trans rfl
      have rR:=aa cL.out 0
      have rS:=aa cL.out 1
      have tQ:=aa cL.out 2
      have tR:=aa cL.out 3
      have tS:=aa cL.out 4
      have tT:=aa cL.out 5
      have tU:=aa cL.out 6
      have tV:=aa cL.out 7
      go_wp2_with (first|((with_reducible refine aQ (f:=21) rfl ?_);refine cu (some 31) rfl rfl Tryz.func21 av rfl #[.agg #[.bool bJ,.slice fk cM.length fo,.string bO,.string cU,.bool cV]] rfl cT ?_;(with_reducible refine (kW.calls kj4 bJ _ _ cM bO cU cV Dy am8 _ ?aX ?bT ?eo A11.out).mono ?_);(case aX=>repeat (first|exact (Kd.fy nI.out HB.out)|(with_reducible refine Kd.eJ ?_ _)|(with_reducible refine Kd.eK ?_ _)|(with_reducible refine Kd.fR ?_)));(case bT=>exact nJ.out);(case eo=>exact aU.below HG.out oc);rintro e Hj ⟨rfl,hb⟩;refine ⟨_,rfl,?_⟩;have bB:=ah.mk (aM (g:=eV) (o:= .cells #[.int .u8 bg,.string bI,.bool bJ,.slice fk cM.length fo,.string bO,.string cU,.bool cV,.slice fC cg.length fq] 35 (0,0)) uU hb);have bL:=ah.mk (ay oc hb);clear cL;clear HB;have cL:=bB;have HB:=bL;clear bB bL;(try clear hb);(try clear hb2);(try clear hk);(try clear hi);have nO:Hj.cell? ⟨eV,0,none⟩=some (.int .u8 bg):=(af cL.out 0).trans rfl;have nP:Hj.cell? ⟨eV,1,none⟩=some (.string bI):=(af cL.out 1).trans rfl;have qR:Hj.cell? ⟨eV,2,none⟩=some (.bool bJ):=(af cL.out 2).trans rfl;have s9:Hj.cell? ⟨eV,3,none⟩=some (.slice fk cM.length fo):=(af cL.out 3).trans rfl;have td:Hj.cell? ⟨eV,4,none⟩=some (.string bO):=(af cL.out 4).trans rfl;have SB:Hj.cell? ⟨eV,5,none⟩=some (.string cU):=(af cL.out 5).trans rfl;have SC:Hj.cell? ⟨eV,6,none⟩=some (.bool cV):=(af cL.out 6).trans rfl;have SD:Hj.cell? ⟨eV,7,none⟩=some (.slice fC cg.length fq):=(af cL.out 7).trans rfl;have nQ:=aa cL.out 0;have nR:=aa cL.out 1;have qT:=aa cL.out 2;have tj:=aa cL.out 3;have tq:=aa cL.out 4;have SE:=aa cL.out 5;have SF:=aa cL.out 6;have SG:=aa cL.out 7))
      go_loopg [3,42] kj4 (fun kq v3 v42 w'=>∃ (wu:ByteArray) (gJ:Int),v3= .string wu∧v42= .int .i64 gJ∧ah (cw.l0 kq wu cg (cg.length:Int) gJ=some r)∧ah (kq≤kj4)∧ah (w'.heap[eV]? =some (.cells #[.int .u8 bg,.string bI,.bool bJ,(.slice fk cM.length fo),.string bO,.string cU,.bool cV,(.slice fC cg.length fq)] 35 (0,0)))∧ah (Below w.heap.size w w'))
      case atStart=>exact ⟨(lS ++ (Bw ++ Dy)),(0),ey,ey,H',⟨Nat.le_refl _⟩,⟨uU⟩,⟨oc⟩⟩
      case round=>
       clear H'
       try clear c1
       try clear c2
       try clear p2
       try clear c3
       try clear c4
       try clear c8
       try clear c10
       try clear pV
       try clear zm
       try clear c12
       try clear CN
       try clear L6
       try clear afb
       try clear c13
       try clear FJ
       try clear Mg
       try clear aaM
       try clear rP
       try clear rQ
       try clear tJ
       try clear tK
       try clear tL
       try clear tM
       try clear tO
       try clear tP
       try clear nO
       try clear nP
       try clear qR
       try clear s9
       try clear td
       try clear SB
       try clear SC
       try clear SD
       try clear Fv
       try clear Fw
       try clear OY
       try clear OZ
       try clear O0
       try clear Wy
       try clear Wz
       try clear WA
       try clear qF
       try clear qG
       try clear xp
       try clear zD
       try clear zE
       try clear K2
       try clear K3
       try clear K4
       try clear rR
       try clear rS
       try clear tQ
       try clear tR
       try clear tS
       try clear tT
       try clear tU
       try clear tV
       try clear nQ
       try clear nR
       try clear qT
       try clear tj
       try clear tq
       try clear SE
       try clear SF
       try clear SG
       try clear Fx
       try clear Fy
       try clear O1
       try clear O2
       try clear O3
       try clear WB
       try clear WC
       try clear WD
       try clear qH
       try clear qI
       try clear xq
       try clear zF
       try clear zG
       try clear K5
       try clear K6
       try clear K7
       try clear p2
       obtain ⟨wu,gJ,rfl,rfl,HA,Oj,cL,HB⟩:=hrel
       cases gk with
       |zero=>exact absurd HA.out (by simp [cw.l0])
       |succ k2=>
        have H:=HA.out
        clear HA
        simp only [cw.l0] at H
        by_cases c17:gJ < (cg.length:Int)
        ·rw [if_pos c17] at H
         have Rx:decide (gJ < (cg.length:Int))=true:=decide_eq_true c17
         clear c17
         by_cases c18: 0≤gJ
         ·rw [if_pos c18] at H
          have ae5:decide (0≤gJ)=true:=decide_eq_true c18
          clear c18
          by_cases c19:gJ < (cg.length:Int)
          ·rw [if_pos c19] at H
           have Sc:decide (gJ < (cg.length:Int))=true:=decide_eq_true c19
           clear c19
           by_cases c20: 1 + ((dL cg gJ).f0).size≤9223372036854775807
           ·rw [if_pos c20] at H
            have He:=eq_true c20
            have ae8:decide (1 + ((dL cg gJ).f0).size≤9223372036854775807)=true:=decide_eq_true c20
            try have aaI:(9223372036854775807 < 1 + ((dL cg gJ).f0).size)=False:=eq_false (Nat.not_lt.2 c20)
            by_cases c21:wu.size + ((⟨#[32]⟩:ByteArray) ++ ((dL cg gJ).f0)).size≤9223372036854775807
            ·rw [if_pos c21] at H
             have Qw:=eq_true c21
             have Ww:decide (wu.size + ((⟨#[32]⟩:ByteArray) ++ ((dL cg gJ).f0)).size≤9223372036854775807)=true:=decide_eq_true c21
             try have Sw:(9223372036854775807 < wu.size + ((⟨#[32]⟩:ByteArray) ++ ((dL cg gJ).f0)).size)=False:=eq_false (Nat.not_lt.2 c21)
             try (have MS:=Sw;simp only [ByteArray.size_append] at MS)
             try have ae9:(9223372036854775807 < wu.size + (1 + ((dL cg gJ).f0).size))=False:=MS
             obtain ⟨afc,WE⟩:∃ b_:Bool,b_=((dL cg gJ).f2):=⟨_,rfl⟩
             replace H:(if afc=true then (if 1 + ((dL cg gJ).f1).size≤9223372036854775807 then (if (wu ++ ((⟨#[32]⟩:ByteArray) ++ ((dL cg gJ).f0))).size + ((⟨#[61]⟩:ByteArray) ++ ((dL cg gJ).f1)).size≤9223372036854775807 then (cw.l0 k2 ((wu ++ ((⟨#[32]⟩:ByteArray) ++ ((dL cg gJ).f0))) ++ ((⟨#[61]⟩:ByteArray) ++ ((dL cg gJ).f1))) cg (cg.length:Int) (wrap64 (gJ + 1))) else (none)) else (none)) else (cw.l0 k2 (wu ++ ((⟨#[32]⟩:ByteArray) ++ ((dL cg gJ).f0))) cg (cg.length:Int) (wrap64 (gJ + 1))))=some r:=by rw [← WE] at H;exact H
             have aaO:=ah.mk WE
             clear WE
             by_cases Vo:afc=true
             ·subst Vo
              have H1:(if 1 + ((dL cg gJ).f1).size≤9223372036854775807 then (if (wu ++ ((⟨#[32]⟩:ByteArray) ++ ((dL cg gJ).f0))).size + ((⟨#[61]⟩:ByteArray) ++ ((dL cg gJ).f1)).size≤9223372036854775807 then (cw.l0 k2 ((wu ++ ((⟨#[32]⟩:ByteArray) ++ ((dL cg gJ).f0))) ++ ((⟨#[61]⟩:ByteArray) ++ ((dL cg gJ).f1))) cg (cg.length:Int) (wrap64 (gJ + 1))) else (none)) else (none))=some r:=by rw [if_pos rfl] at H;exact H
              clear H
              have H:=H1
              clear H1
              by_cases c24: 1 + ((dL cg gJ).f1).size≤9223372036854775807
              ·rw [if_pos c24] at H
               have LQ:=eq_true c24
               have aaf:decide (1 + ((dL cg gJ).f1).size≤9223372036854775807)=true:=decide_eq_true c24
               try have apy:(9223372036854775807 < 1 + ((dL cg gJ).f1).size)=False:=eq_false (Nat.not_lt.2 c24)
               by_cases Tg:(wu ++ ((⟨#[32]⟩:ByteArray) ++ ((dL cg gJ).f0))).size + ((⟨#[61]⟩:ByteArray) ++ ((dL cg gJ).f1)).size≤9223372036854775807
               ·rw [if_pos Tg] at H
                have We:=eq_true Tg
                have apz:decide ((wu ++ ((⟨#[32]⟩:ByteArray) ++ ((dL cg gJ).f0))).size + ((⟨#[61]⟩:ByteArray) ++ ((dL cg gJ).f1)).size≤9223372036854775807)=true:=decide_eq_true Tg
                try have afd:(9223372036854775807 < (wu ++ ((⟨#[32]⟩:ByteArray) ++ ((dL cg gJ).f0))).size + ((⟨#[61]⟩:ByteArray) ++ ((dL cg gJ).f1)).size)=False:=eq_false (Nat.not_lt.2 Tg)
                try (have aaP:=afd;simp only [ByteArray.size_append] at aaP)
                try have apA:(9223372036854775807 < (wu.size + (1 + ((dL cg gJ).f0).size)) + (1 + ((dL cg gJ).f1).size))=False:=aaP
                have H':=ah.mk H
                clear H
                have O8: 0≤(gJ:Int):=of_decide_eq_true cW
                have O9:gJ < (cg.length:Int):=of_decide_eq_true cW
                obtain ⟨LH,acD,wz,wA,rV⟩:=xe pW.out gJ O8 O9
                (try rw [← aaO.out] at rV)
                cases acD
                replace wz:=(HB.out.cell (World.block_lt_of_cell? w _ wz)).trans wz
                replace wA:=(HB.out.cell (World.block_lt_of_cell? w _ wA)).trans wA
                replace rV:=(HB.out.cell (World.block_lt_of_cell? w _ rV)).trans rV
                replace O8:=eq_true O8
                replace O9:=eq_true O9
                go_wp2_with (first|((with_reducible refine cC (N:=8) rfl ?_);refine b9 ?hg (N:=8) ?hd (cs:=#[.string (⟨#[]⟩:ByteArray),.string (⟨#[]⟩:ByteArray),.bool false]) (t:=58) ?hr ?_;(case hd=>rfl);(case hg=>rfl);(case hr=>first|(go_simp;done)|(go_simp;rfl));intro sN hg zK cJ hb;have bB:=ah.mk (aM (g:=eV) (o:= .cells #[.int .u8 bg,.string bI,.bool bJ,.slice fk cM.length fo,.string bO,.string cU,.bool cV,.slice (some LH) cg.length fq] 35 (0,0)) uU hb);have bL:=ah.mk (ay oc hb);have bY:=ah.mk (cJ);have cK:=ah.mk ((DI:w.heap.size≤sN));have gY:=ah.mk ((DI:w.heap.size≤sN));have jc:=ah.mk ((PN:eV≠sN));have nH:=ah.mk ((PO:sN≠eV));clear cL;clear HB;have cL:=bB;have HB:=bL;have uL:=bY;have afe:=cK;have Z6:=gY;have rX:=jc;have Cb:=nH;clear bB bL bY cK gY jc nH;clear hb cJ hg;have aaj:=Cb.out;have aak:=rX.out;have Ez:zK.cell? ⟨sN,0,none⟩=some (.string (⟨#[]⟩:ByteArray)):=(af uL.out 0).trans rfl;have EA:zK.cell? ⟨sN,1,none⟩=some (.string (⟨#[]⟩:ByteArray)):=(af uL.out 1).trans rfl;have EB:zK.cell? ⟨sN,2,none⟩=some (.bool false):=(af uL.out 2).trans rfl;have EC:=aa uL.out 0;have ED:=aa uL.out 1;have EE:=aa uL.out 2))
                go_roundg k2
                case measure=>have:=HJ4.out;have:=Oj.out;omega
                case rel=>exact ⟨((wu ++ ((⟨#[32]⟩:ByteArray) ++ ((dL cg gJ).f0))) ++ ((⟨#[61]⟩:ByteArray) ++ ((dL cg gJ).f1))),(wrap64 (gJ + 1)),ey,ey,H',⟨by have:=HJ4.out;have:=Oj.out;omega⟩,⟨PM⟩,⟨PX⟩⟩
               ·rw [if_neg Tg] at H
                exact absurd H bn
              ·rw [if_neg c24] at H
               exact absurd H bn
             ·replace Vo:=Bool.eq_false_iff.mpr Vo
              subst Vo
              have H1:(cw.l0 k2 (wu ++ ((⟨#[32]⟩:ByteArray) ++ ((dL cg gJ).f0))) cg (cg.length:Int) (wrap64 (gJ + 1)))=some r:=by rw [if_neg (show ¬ (false=true) by decide)] at H;exact H
              clear H
              have H:=H1
              clear H1
              have H':=ah.mk H
              clear H
              have O8: 0≤(gJ:Int):=of_decide_eq_true cW
              have O9:gJ < (cg.length:Int):=of_decide_eq_true cW
              obtain ⟨LH,acD,wz,wA,rV⟩:=xe pW.out gJ O8 O9
              (try rw [← aaO.out] at rV)
              cases acD
              replace wz:=(HB.out.cell (World.block_lt_of_cell? w _ wz)).trans wz
              replace wA:=(HB.out.cell (World.block_lt_of_cell? w _ wA)).trans wA
              replace rV:=(HB.out.cell (World.block_lt_of_cell? w _ rV)).trans rV
              replace O8:=eq_true O8
              replace O9:=eq_true O9
              go_wp2_with (first|((with_reducible refine cC (N:=8) rfl ?_);refine b9 ?hg (N:=8) ?hd (cs:=#[.string (⟨#[]⟩:ByteArray),.string (⟨#[]⟩:ByteArray),.bool false]) (t:=58) ?hr ?_;(case hd=>rfl);(case hg=>rfl);(case hr=>first|(go_simp;done)|(go_simp;rfl));intro sN hg w29 cJ hb;have bB:=ah.mk (aM (g:=eV) (o:= .cells #[.int .u8 bg,.string bI,.bool bJ,.slice fk cM.length fo,.string bO,.string cU,.bool cV,.slice (some LH) cg.length fq] 35 (0,0)) uU hb);have bL:=ah.mk (ay oc hb);have bY:=ah.mk (cJ);have cK:=ah.mk ((DI:w.heap.size≤sN));have gY:=ah.mk ((DI:w.heap.size≤sN));have jc:=ah.mk ((PN:eV≠sN));have nH:=ah.mk ((PO:sN≠eV));clear cL;clear HB;have cL:=bB;have HB:=bL;have uL:=bY;have afe:=cK;have Z6:=gY;have rX:=jc;have Cb:=nH;clear bB bL bY cK gY jc nH;clear hb cJ hg;have aas:=Cb.out;have aat:=rX.out;have yN:w29.cell? ⟨sN,0,none⟩=some (.string (⟨#[]⟩:ByteArray)):=(af uL.out 0).trans rfl;have yO:w29.cell? ⟨sN,1,none⟩=some (.string (⟨#[]⟩:ByteArray)):=(af uL.out 1).trans rfl;have Bk:w29.cell? ⟨sN,2,none⟩=some (.bool false):=(af uL.out 2).trans rfl;have yP:=aa uL.out 0;have yQ:=aa uL.out 1;have Bl:=aa uL.out 2))
              go_roundg k2
              case measure=>have:=HJ4.out;have:=Oj.out;omega
              case rel=>exact ⟨(wu ++ ((⟨#[32]⟩:ByteArray) ++ ((dL cg gJ).f0))),(wrap64 (gJ + 1)),ey,ey,H',⟨by have:=HJ4.out;have:=Oj.out;omega⟩,⟨PM⟩,⟨PX⟩⟩
            ·rw [if_neg c21] at H
             exact absurd H bn
           ·rw [if_neg c20] at H
            exact absurd H bn
          ·rw [if_neg c19] at H
           exact absurd H bn
         ·rw [if_neg c18] at H
          exact absurd H bn
        ·rw [if_neg c17] at H
         have Rx:decide (gJ < (cg.length:Int))=false:=decide_eq_false c17
         clear c17
         obtain rfl:=Option.some.inj H
         go_wp2
         go_ret
         exact ⟨cR,oc⟩
     ·rw [if_neg c13] at H
      exact absurd H bn
    ·rw [if_neg c12] at H
     exact absurd H bn
 ·replace c4:=Bool.eq_false_iff.mpr c4
  subst c4
  have H1:(if bI.toList=([]:List UInt8) then (some lS) else (if 1 + bI.size≤9223372036854775807 then (if lS.size + ((⟨#[32]⟩:ByteArray) ++ bI).size≤9223372036854775807 then (some (lS ++ ((⟨#[32]⟩:ByteArray) ++ bI))) else (none)) else (none)))=some r:=by rw [if_neg (show ¬ (false=true) by decide)] at H;exact H
  clear H
  have H:=H1
  clear H1
  by_cases GI:bI.toList=([]:List UInt8)
  ·rw [if_pos GI] at H
   have LX:(bI.toList == ([]:List UInt8))=true:=beq_iff_eq.mpr GI
   have Sd:(bI.toList != ([]:List UInt8))=false:=bne_eq_false_iff_eq.mpr GI
   clear GI
   obtain rfl:=Option.some.inj H
   go_enter Tryz.func89,Tryz.ntmps89
   go_wp2_with (first|((with_reducible refine cC (N:=1) rfl ?_);refine b9 ?hg (N:=1) ?hd (cs:=#[.int .u8 bg,.string bI,.bool bJ,.slice fk cM.length fo,.string bO,.string cU,.bool cV,.slice fC cg.length fq]) (t:=35) ?hr ?_;(case hd=>rfl);(case hg=>rfl);(case hr=>first|(go_simp;done)|(go_simp;rfl));intro eV hg NN cJ hb;have bB:=ah.mk (ay bN hb);have bL:=ah.mk (cJ);have bY:=ah.mk ((dz:w.heap.size≤eV));have cK:=ah.mk ((dz:w.heap.size≤eV));clear HB;have HB:=bB;have cL:=bL;have aaL:=bY;have Lr:=cK;clear bB bL bY cK;clear hb cJ hg;have Kj:NN.cell? ⟨eV,0,none⟩=some (.int .u8 bg):=(af cL.out 0).trans rfl;have Kk:NN.cell? ⟨eV,1,none⟩=some (.string bI):=(af cL.out 1).trans rfl;have Kl:NN.cell? ⟨eV,2,none⟩=some (.bool bJ):=(af cL.out 2).trans rfl;have Zu:NN.cell? ⟨eV,3,none⟩=some (.slice fk cM.length fo):=(af cL.out 3).trans rfl;have Zv:NN.cell? ⟨eV,4,none⟩=some (.string bO):=(af cL.out 4).trans rfl;have aiZ:NN.cell? ⟨eV,5,none⟩=some (.string cU):=(af cL.out 5).trans rfl;have ai0:NN.cell? ⟨eV,6,none⟩=some (.bool cV):=(af cL.out 6).trans rfl;have ai1:NN.cell? ⟨eV,7,none⟩=some (.slice fC cg.length fq):=(af cL.out 7).trans rfl;have Km:=aa cL.out 0;have Kn:=aa cL.out 1;have Ko:=aa cL.out 2;have Zw:=aa cL.out 3;have Zx:=aa cL.out 4;have ai2:=aa cL.out 5;have ai3:=aa cL.out 6;have ai4:=aa cL.out 7)|((with_reducible refine aQ (f:=38) rfl ?_);refine cu (some 11) rfl rfl Tryz.func38 av rfl #[.int .u8 bg] rfl cT ?_;(with_reducible refine (kO.calls bg lS _ ?aX A2.out).mono ?_);(case aX=>exact aU.below HG.out oc);rintro e Sy ⟨rfl,hb⟩;refine ⟨_,rfl,?_⟩;have bB:=ah.mk (aM (g:=eV) (o:= .cells #[.int .u8 bg,.string bI,.bool bJ,.slice fk cM.length fo,.string bO,.string cU,.bool cV,.slice fC cg.length fq] 35 (0,0)) uU hb);have bL:=ah.mk (ay oc hb);clear cL;clear HB;have cL:=bB;have HB:=bL;clear bB bL;(try clear hb);(try clear hb2);(try clear hk);(try clear hi);have yG:Sy.cell? ⟨eV,0,none⟩=some (.int .u8 bg):=(af cL.out 0).trans rfl;have yH:Sy.cell? ⟨eV,1,none⟩=some (.string bI):=(af cL.out 1).trans rfl;have yI:Sy.cell? ⟨eV,2,none⟩=some (.bool bJ):=(af cL.out 2).trans rfl;have JW:Sy.cell? ⟨eV,3,none⟩=some (.slice fk cM.length fo):=(af cL.out 3).trans rfl;have JX:Sy.cell? ⟨eV,4,none⟩=some (.string bO):=(af cL.out 4).trans rfl;have Rk:Sy.cell? ⟨eV,5,none⟩=some (.string cU):=(af cL.out 5).trans rfl;have Rl:Sy.cell? ⟨eV,6,none⟩=some (.bool cV):=(af cL.out 6).trans rfl;have Rm:Sy.cell? ⟨eV,7,none⟩=some (.slice fC cg.length fq):=(af cL.out 7).trans rfl;have yJ:=aa cL.out 0;have yK:=aa cL.out 1;have yL:=aa cL.out 2;have JY:=aa cL.out 3;have JZ:=aa cL.out 4;have Rn:=aa cL.out 5;have Ro:=aa cL.out 6;have Rp:=aa cL.out 7)|((with_reducible refine aQ (f:=135) rfl ?_);refine cu (some 14) rfl rfl Tryz.func135 av rfl #[.int .u8 bg] rfl cT ?_;(with_reducible refine (eH.calls bg false _ A3.out).mono ?_);rintro e w' ⟨rfl,⟨nd,rfl⟩⟩;refine ⟨_,rfl,?_⟩))
   go_ret
   exact ⟨cR,oc⟩
  ·rw [if_neg GI] at H
   have LX:(bI.toList == ([]:List UInt8))=false:=beq_eq_false_iff_ne.mpr GI
   have Sd:(bI.toList != ([]:List UInt8))=true:=bne_iff_ne.mpr GI
   by_cases c37: 1 + bI.size≤9223372036854775807
   ·rw [if_pos c37] at H
    have aek:=eq_true c37
    have ael:decide (1 + bI.size≤9223372036854775807)=true:=decide_eq_true c37
    try have apB:(9223372036854775807 < 1 + bI.size)=False:=eq_false (Nat.not_lt.2 c37)
    by_cases Ub:lS.size + ((⟨#[32]⟩:ByteArray) ++ bI).size≤9223372036854775807
    ·rw [if_pos Ub] at H
     have aaz:=eq_true Ub
     have apC:decide (lS.size + ((⟨#[32]⟩:ByteArray) ++ bI).size≤9223372036854775807)=true:=decide_eq_true Ub
     try have aff:(9223372036854775807 < lS.size + ((⟨#[32]⟩:ByteArray) ++ bI).size)=False:=eq_false (Nat.not_lt.2 Ub)
     try (have aaQ:=aff;simp only [ByteArray.size_append] at aaQ)
     try have apD:(9223372036854775807 < lS.size + (1 + bI.size))=False:=aaQ
     obtain rfl:=Option.some.inj H
     go_enter Tryz.func89,Tryz.ntmps89
     go_wp2_with (first|((with_reducible refine cC (N:=1) rfl ?_);refine b9 ?hg (N:=1) ?hd (cs:=#[.int .u8 bg,.string bI,.bool bJ,.slice fk cM.length fo,.string bO,.string cU,.bool cV,.slice fC cg.length fq]) (t:=35) ?hr ?_;(case hd=>rfl);(case hg=>rfl);(case hr=>first|(go_simp;done)|(go_simp;rfl));intro eV hg Zy cJ hb;have bB:=ah.mk (ay bN hb);have bL:=ah.mk (cJ);have bY:=ah.mk ((dz:w.heap.size≤eV));have cK:=ah.mk ((dz:w.heap.size≤eV));clear HB;have HB:=bB;have cL:=bL;have aaL:=bY;have Lr:=cK;clear bB bL bY cK;clear hb cJ hg;have RR:Zy.cell? ⟨eV,0,none⟩=some (.int .u8 bg):=(af cL.out 0).trans rfl;have RS:Zy.cell? ⟨eV,1,none⟩=some (.string bI):=(af cL.out 1).trans rfl;have RT:Zy.cell? ⟨eV,2,none⟩=some (.bool bJ):=(af cL.out 2).trans rfl;have RU:Zy.cell? ⟨eV,3,none⟩=some (.slice fk cM.length fo):=(af cL.out 3).trans rfl;have RV:Zy.cell? ⟨eV,4,none⟩=some (.string bO):=(af cL.out 4).trans rfl;have ZF:Zy.cell? ⟨eV,5,none⟩=some (.string cU):=(af cL.out 5).trans rfl;have ZG:Zy.cell? ⟨eV,6,none⟩=some (.bool cV):=(af cL.out 6).trans rfl;have ZH:Zy.cell? ⟨eV,7,none⟩=some (.slice fC cg.length fq):=(af cL.out 7).trans rfl;have RX:=aa cL.out 0;have RY:=aa cL.out 1;have RZ:=aa cL.out 2;have R3:=aa cL.out 3;have R4:=aa cL.out 4;have ZI:=aa cL.out 5;have ZJ:=aa cL.out 6;have ZK:=aa cL.out 7)|((with_reducible refine aQ (f:=38) rfl ?_);refine cu (some 11) rfl rfl Tryz.func38 av rfl #[.int .u8 bg] rfl cT ?_;(with_reducible refine (kO.calls bg lS _ ?aX A2.out).mono ?_);(case aX=>exact aU.below HG.out oc);rintro e OT ⟨rfl,hb⟩;refine ⟨_,rfl,?_⟩;have bB:=ah.mk (aM (g:=eV) (o:= .cells #[.int .u8 bg,.string bI,.bool bJ,.slice fk cM.length fo,.string bO,.string cU,.bool cV,.slice fC cg.length fq] 35 (0,0)) uU hb);have bL:=ah.mk (ay oc hb);clear cL;clear HB;have cL:=bB;have HB:=bL;clear bB bL;(try clear hb);(try clear hb2);(try clear hk);(try clear hi);have YK:OT.cell? ⟨eV,0,none⟩=some (.int .u8 bg):=(af cL.out 0).trans rfl;have YL:OT.cell? ⟨eV,1,none⟩=some (.string bI):=(af cL.out 1).trans rfl;have YM:OT.cell? ⟨eV,2,none⟩=some (.bool bJ):=(af cL.out 2).trans rfl;have YN:OT.cell? ⟨eV,3,none⟩=some (.slice fk cM.length fo):=(af cL.out 3).trans rfl;have YO:OT.cell? ⟨eV,4,none⟩=some (.string bO):=(af cL.out 4).trans rfl;have ai5:OT.cell? ⟨eV,5,none⟩=some (.string cU):=(af cL.out 5).trans rfl;have ai6:OT.cell? ⟨eV,6,none⟩=some (.bool cV):=(af cL.out 6).trans rfl;have ai7:OT.cell? ⟨eV,7,none⟩=some (.slice fC cg.length fq):=(af cL.out 7).trans rfl;have YP:=aa cL.out 0;have YQ:=aa cL.out 1;have YR:=aa cL.out 2;have YS:=aa cL.out 3;have YT:=aa cL.out 4;have ai8:=aa cL.out 5;have ai9:=aa cL.out 6;have aja:=aa cL.out 7)|((with_reducible refine aQ (f:=135) rfl ?_);refine cu (some 14) rfl rfl Tryz.func135 av rfl #[.int .u8 bg] rfl cT ?_;(with_reducible refine (eH.calls bg false _ A3.out).mono ?_);rintro e w' ⟨rfl,⟨nd,rfl⟩⟩;refine ⟨_,rfl,?_⟩))
     go_ret
     exact ⟨cR,oc⟩
    ·rw [if_neg Ub] at H
     exact absurd H bn
   ·rw [if_neg c37] at H
    exact absurd H bn
def kX.f (k:Nat) (bg:ByteArray) (bI:ByteArray) (bJ:Bool):Option (Bool):=(bW.f k bg bI bJ).bind fun Ty=>(some (!Ty))
set_option maxHeartbeats 8000000 in
set_option maxRecDepth 100000 in
theorem kX.calls (k:Nat) (bg:ByteArray) (bI:ByteArray) (bJ:Bool) (r:Bool) (w:World) (h:kX.f k bg bI bJ=some r):
 Calls Tryz.prog 137 #[.agg #[.string bg,.string bI,.bool bJ]] w fun e w'=>e= .returned (.bool r)∧Below w.heap.size w w':=by
 have Vq:=Tryz.underlying58
 have HB:=ah.mk (Below.refl w.heap.size w)
 have H:((bW.f k bg bI bJ).bind fun Ty=>(some (!Ty)))=some r:=h
 clear h
 replace H:=Option.bind_eq_some_iff.mp H
 obtain ⟨Ty,nU,H⟩:=H
 replace H:(some (!Ty))=some r:=H
 have A2:=ah.mk nU
 clear nU
 obtain rfl:=Option.some.inj H
 go_enter Tryz.func137,Tryz.ntmps137
 go_wp2_with (first|((with_reducible refine cC (N:=1) rfl ?_);refine b9 ?hg (N:=1) ?hd (cs:=#[.string bg,.string bI,.bool bJ]) (t:=58) ?hr ?_;(case hd=>rfl);(case hg=>rfl);(case hr=>first|(go_simp;done)|(go_simp;rfl));intro Hs hg w3 cJ hb;have bB:=ah.mk (ay bN hb);have bL:=ah.mk (cJ);have bY:=ah.mk ((dz:w.heap.size≤Hs));have cK:=ah.mk ((dz:w.heap.size≤Hs));clear HB;have HB:=bB;have Bx:=bL;have apE:=bY;have adw:=cK;clear bB bL bY cK;clear hb cJ hg;have am9:w3.cell? ⟨Hs,0,none⟩=some (.string bg):=(af Bx.out 0).trans rfl;have ana:w3.cell? ⟨Hs,1,none⟩=some (.string bI):=(af Bx.out 1).trans rfl;have anb:w3.cell? ⟨Hs,2,none⟩=some (.bool bJ):=(af Bx.out 2).trans rfl;have anc:=aa Bx.out 0;have ane:=aa Bx.out 1;have anf:=aa Bx.out 2)|((with_reducible refine aQ (f:=138) rfl ?_);refine cu (some 4) rfl rfl Tryz.func138 av rfl #[.agg #[.string bg,.string bI,.bool bJ]] rfl cT ?_;(with_reducible refine (bW.calls k bg bI bJ Ty _ A2.out).mono ?_);rintro e w5 ⟨rfl,hb⟩;refine ⟨_,rfl,?_⟩;have bB:=ah.mk (aM (g:=Hs) (o:= .cells #[.string bg,.string bI,.bool bJ] 58 (0,0)) (by (with_reducible repeat (first|refine au ?_ _|refine aG ?_|refine az ?_ _));exact Bx.out) hb);have bL:=ah.mk (ay P5 hb);clear Bx;clear HB;have Bx:=bB;have HB:=bL;clear bB bL;(try clear hb);(try clear hb2);(try clear hk);(try clear hi)))
 go_ret
 exact ⟨cR,P5⟩
end Go.Proofs.YtokpnfljjjjikaaGreatDoor.pJ
