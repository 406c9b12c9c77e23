import Derived.Test.YtokpnfljjjjikaaGreatDoorQCbx14
set_option maxHeartbeats 8000000
set_option maxRecDepth 100000
namespace Go.Proofs.YtokpnfljjjjikaaGreatDoor.n9
open Go.RowKit Go.Proofs.aj.bQ Go.Proofs.aj.gf Go.Proofs.aj.cT
attribute [local go_sem] jt iY kQ kJ iJ iK ju jv
set_option linter.unusedVariables false
set_option linter.unusedSimpArgs false
attribute [local go_sem high] WN
def kR.f (k:Nat) (a0:ByteArray):Option (Bool):=(kL.f k a0).bind fun U3=>(some (!U3))
theorem kR.calls (k:Nat) (a0:ByteArray) (r:Bool) (w:World) (hG:aW w) (h:kR.f k a0=some r):
 Calls Tryz.prog 64 #[.string a0] w fun e w'=>e= .returned (.bool r)∧Below w.heap.size w w':=by
 have HB:=ah.mk (Below.refl w.heap.size w)
 have HG:=ah.mk hG
 clear hG
 have H:((kL.f k a0).bind fun U3=>(some (!U3)))=some r:=h
 clear h
 replace H:=Option.bind_eq_some_iff.mp H
 obtain ⟨U3,oL,H⟩:=H
 replace H:(some (!U3))=some r:=H
 have A2:=ah.mk oL
 clear oL
 obtain rfl:=Option.some.inj H
 go_enter Tryz.func64,Tryz.ntmps64
 go_wp2_with (first|((with_reducible refine aT (f:=65) rfl ?_);refine cC (some 4) rfl rfl Tryz.func65 av rfl #[.string a0] rfl cY ?_;(with_reducible refine (kL.calls k a0 U3 _ ?bg A2.out).mono ?_);(case bg=>exact aW.below HG.out cA);rintro e w3 ⟨rfl,hb⟩;refine ⟨_,rfl,?_⟩;have bI:=ah.mk (az cA hb);clear HB;have HB:=bI;clear bI;(try clear hb);(try clear hb2);(try clear hk);(try clear hi)))
 go_ret
 exact ⟨cU,cA⟩
def bJ.l0:Nat→List ByteArray→Int→Int→Option (Int)
 | 0,_,_,_ =>none
 |k + 1,x0,x7,x8=>if x8 < x7 then (if 0≤x8 then (if x8 < (x0.length:Int) then ((kR.f k (kG ByteArray.empty x0 x8)).bind fun aaZ=>(if aaZ=true then (some x8) else (bJ.l0 k x0 x7 (wrap64 (x8 + 1))))) else (none)) else (none)) else (some (-1))
def bJ.f (k:Nat) (l0:List ByteArray):Option (Int):=bJ.l0 k l0 (l0.length:Int) 0
theorem bJ.calls (k:Nat) (A0:Option Addr) (c0:Nat) (l0:List ByteArray) (r:Int) (w:World) (Bk:Kd.C Kd.string w A0 l0.length l0) (hc0:l0.length≤c0) (hG:aW w) (h:bJ.f k l0=some r):
 Calls Tryz.prog 117 #[.slice A0 l0.length c0,.func (.func 64) #[] #[]] w fun e w'=>e= .returned (.int .i64 r)∧Below w.heap.size w w':=by
 have yI:=ah.mk Bk
 have S3:=ah.mk hc0
 clear Bk hc0
 have HB:=ah.mk (Below.refl w.heap.size w)
 have HG:=ah.mk hG
 clear hG
 have H:(bJ.l0 k l0 (l0.length:Int) 0)=some r:=h
 clear h
 have H':=ah.mk H
 clear H
 go_enter Tryz.func117,Tryz.ntmps117
 go_wp2
 go_loopg [8] k (fun kq v8 w'=>∃ (eW:Int),v8= .int .i64 eW∧ah (bJ.l0 kq l0 (l0.length:Int) eW=some r)∧ah (kq≤k)∧ah (Below w.heap.size w w'))
 case atStart=>exact ⟨(0),dL,H',⟨Nat.le_refl _⟩,⟨cA⟩⟩
 case round=>
  clear H'
  try clear c1
  try clear p2
  obtain ⟨eW,rfl,HA,wS,HB⟩:=hrel
  cases gk with
  |zero=>exact absurd HA.out (by simp [bJ.l0])
  |succ k1=>
   have H:=HA.out
   clear HA
   simp only [bJ.l0] at H
   by_cases c3:eW < (l0.length:Int)
   ·rw [if_pos c3] at H
    have rD:decide (eW < (l0.length:Int))=true:=decide_eq_true c3
    clear c3
    by_cases c4: 0≤eW
    ·rw [if_pos c4] at H
     have nP:decide (0≤eW)=true:=decide_eq_true c4
     clear c4
     by_cases c5:eW < (l0.length:Int)
     ·rw [if_pos c5] at H
      have vZ:decide (eW < (l0.length:Int))=true:=decide_eq_true c5
      clear c5
      replace H:=Option.bind_eq_some_iff.mp H
      obtain ⟨aaZ,yF,H⟩:=H
      replace H:(if aaZ=true then (some eW) else (bJ.l0 k1 l0 (l0.length:Int) (wrap64 (eW + 1))))=some r:=H
      have A6:=ah.mk yF
      clear yF
      by_cases c7:aaZ=true
      ·subst c7
       have H1:(some eW)=some r:=by rw [if_pos rfl] at H;exact H
       clear H
       have H:=H1
       clear H1
       obtain rfl:=Option.some.inj H
       have Qn: 0≤(eW:Int):=of_decide_eq_true cO
       have Qo:eW < (l0.length:Int):=of_decide_eq_true cO
       obtain ⟨agr,ad3,xU⟩:=Kd.jB yI.out eW Qn Qo
       cases ad3
       replace xU:=(HB.out.cell (World.block_lt_of_cell? w _ xU)).trans xU
       replace Qn:=eq_true Qn
       replace Qo:=eq_true Qo
       go_wp2_with (first|(go_at_call 64;(with_reducible refine (kR.calls k1 (kG ByteArray.empty l0 eW) true _ ?bg A6.out).mono ?_);(case bg=>exact aW.below HG.out cA);rintro e w8 ⟨rfl,hb⟩;have bI:=ah.mk (az cA hb);clear HB;have HB:=bI;clear bI;(try clear hb);(try clear hb2);(try clear hk);(try clear hi)))
       go_ret
       exact ⟨cU,cA⟩
      ·replace c7:=Bool.eq_false_iff.mpr c7
       subst c7
       have H1:(bJ.l0 k1 l0 (l0.length:Int) (wrap64 (eW + 1)))=some r:=by rw [if_neg (show ¬ (false=true) by decide)] at H;exact H
       clear H
       have H:=H1
       clear H1
       have H':=ah.mk H
       clear H
       have Qn: 0≤(eW:Int):=of_decide_eq_true cO
       have Qo:eW < (l0.length:Int):=of_decide_eq_true cO
       obtain ⟨agr,ad3,xU⟩:=Kd.jB yI.out eW Qn Qo
       cases ad3
       replace xU:=(HB.out.cell (World.block_lt_of_cell? w _ xU)).trans xU
       replace Qn:=eq_true Qn
       replace Qo:=eq_true Qo
       go_wp2_with (first|(go_at_call 64;(with_reducible refine (kR.calls k1 (kG ByteArray.empty l0 eW) false _ ?bg A6.out).mono ?_);(case bg=>exact aW.below HG.out cA);rintro e w9 ⟨rfl,hb⟩;have bI:=ah.mk (az cA hb);clear HB;have HB:=bI;clear bI;(try clear hb);(try clear hb2);(try clear hk);(try clear hi)))
       go_roundg k1
       case measure=>have:=wS.out;omega
       case rel=>exact ⟨(wrap64 (eW + 1)),dL,H',⟨ko⟩,⟨cA⟩⟩
     ·rw [if_neg c5] at H
      exact absurd H bf
    ·rw [if_neg c4] at H
     exact absurd H bf
   ·rw [if_neg c3] at H
    have rD:decide (eW < (l0.length:Int))=false:=decide_eq_false c3
    clear c3
    obtain rfl:=Option.some.inj H
    go_wp2
    go_ret
    exact ⟨cU,cA⟩
def b9.f (k:Nat) (l0:List ByteArray):Option (Bool):=(bJ.f k l0).bind fun U4=>(some (decide (U4≥0)))
theorem b9.calls (k:Nat) (A0:Option Addr) (c0:Nat) (l0:List ByteArray) (r:Bool) (w:World) (Bk:Kd.C Kd.string w A0 l0.length l0) (hc0:l0.length≤c0) (hG:aW w) (h:b9.f k l0=some r):
 Calls Tryz.prog 59 #[.slice A0 l0.length c0,.func (.func 64) #[] #[]] w fun e w'=>e= .returned (.bool r)∧Below w.heap.size w w':=by
 have yI:=ah.mk Bk
 have S3:=ah.mk hc0
 clear Bk hc0
 have HB:=ah.mk (Below.refl w.heap.size w)
 have HG:=ah.mk hG
 clear hG
 have H:((bJ.f k l0).bind fun U4=>(some (decide (U4≥0))))=some r:=h
 clear h
 replace H:=Option.bind_eq_some_iff.mp H
 obtain ⟨U4,zb,H⟩:=H
 replace H:(some (decide (U4≥0)))=some r:=H
 have A3:=ah.mk zb
 clear zb
 obtain rfl:=Option.some.inj H
 go_enter Tryz.func59,Tryz.ntmps59
 go_wp2_with (first|((with_reducible refine aT (f:=117) rfl ?_);refine cC (some 7) rfl rfl Tryz.func117 av rfl #[.slice A0 l0.length c0,.func (.func 64) #[] #[]] rfl cY ?_;(with_reducible refine (bJ.calls k _ _ l0 U4 _ ?bg ?bY ?eI A3.out).mono ?_);(case bg=>repeat (first|exact yI.out|(with_reducible refine Kd.dZ ?_ _)|(with_reducible refine Kd.eo ?_ _)|(with_reducible refine Kd.eZ ?_)));(case bY=>exact S3.out);(case eI=>exact aW.below HG.out cA);rintro e w4 ⟨rfl,hb⟩;refine ⟨_,rfl,?_⟩;have bI:=ah.mk (az cA hb);clear HB;have HB:=bI;clear bI;(try clear hb);(try clear hb2);(try clear hk);(try clear hi)))
 go_ret
 exact ⟨cU,cA⟩
def fM.f (k:Nat) (aI:Bool) (dN:List ByteArray) (bn:ByteArray) (eF:ByteArray) (bz:Bool):Option (Bool):=if aI=true then (if (dN.length:Int)=0 then (some (bn.toList == ([]:List UInt8) && (eF.toList == ([]:List UInt8) && (!bz)))) else (some false)) else (if (bn.toList == ([112,111,115,116,109,97,115,116,101,114]:List UInt8) && (eF.toList == ([]:List UInt8) && (!bz)))=true then (some ((dN.length:Int) == 0)) else ((dV.f k bn eF bz).bind fun N0=>(if N0=true then (if (dN.length:Int)≤20 then ((b9.f k dN).bind fun E4=>(some (!E4))) else (some false)) else (some false))))
theorem fM.calls (k:Nat) (aI:Bool) (iF:Option Addr) (iG:Nat) (dN:List ByteArray) (bn:ByteArray) (eF:ByteArray) (bz:Bool) (r:Bool) (w:World) (Ea:Kd.C Kd.string w iF dN.length dN) (Eb:dN.length≤iG) (hG:aW w) (h:fM.f k aI dN bn eF bz=some r):
 Calls Tryz.prog 20 #[.agg #[.bool aI,.slice iF dN.length iG,.string bn,.string eF,.bool bz]] w fun e w'=>e= .returned (.bool r)∧Below w.heap.size w w':=by
 have M3:=Tryz.underlying32
 have M4:=Tryz.underlying30
 have yR:=ah.mk Ea
 have BZ:=ah.mk Eb
 clear Ea Eb
 have HB:=ah.mk (Below.refl w.heap.size w)
 have HG:=ah.mk hG
 clear hG
 have H:(if aI=true then (if (dN.length:Int)=0 then (some (bn.toList == ([]:List UInt8) && (eF.toList == ([]:List UInt8) && (!bz)))) else (some false)) else (if (bn.toList == ([112,111,115,116,109,97,115,116,101,114]:List UInt8) && (eF.toList == ([]:List UInt8) && (!bz)))=true then (some ((dN.length:Int) == 0)) else ((dV.f k bn eF bz).bind fun N0=>(if N0=true then (if (dN.length:Int)≤20 then ((b9.f k dN).bind fun E4=>(some (!E4))) else (some false)) else (some false)))))=some r:=h
 clear h
 by_cases c2:aI=true
 ·subst c2
  have H1:(if (dN.length:Int)=0 then (some (bn.toList == ([]:List UInt8) && (eF.toList == ([]:List UInt8) && (!bz)))) else (some false))=some r:=by rw [if_pos rfl] at H;exact H
  clear H
  have H:=H1
  clear H1
  by_cases c3:(dN.length:Int)=0
  ·rw [if_pos c3] at H
   have rD:((dN.length:Int) == 0)=true:=beq_iff_eq.mpr c3
   have Nt:((dN.length:Int) != 0)=false:=bne_eq_false_iff_eq.mpr c3
   clear c3
   obtain rfl:=Option.some.inj H
   go_enter Tryz.func20,Tryz.ntmps20
   go_wp2_with (first|((with_reducible refine cK (N:=1) rfl ?_);(try (refine eu (by rfl) ?_;dsimp only));refine cu ?hg (N:=1) ?hd (cs:=#[.bool true,.slice iF dN.length iG,.string bn,.string eF,.bool bz]) (t:=32) ?hr ?_;(case hd=>rfl);(case hg=>rfl);(case hr=>first|(go_simp;done)|(go_simp;rfl));intro gm hg w4 cM hb;have bI:=ah.mk (az cA hb);have bP:=ah.mk (cM);have cw:=ah.mk ((dW:w.heap.size≤gm));have cW:=ah.mk ((dW:w.heap.size≤gm));clear HB;have HB:=bI;have eA:=bP;have N1:=cw;have I9:=cW;clear bI bP cw cW;clear hb cM hg;have Ls:w4.cell? ⟨gm,0,none⟩=some (.bool true):=(af eA.out 0).trans rfl;have Lt:w4.cell? ⟨gm,1,none⟩=some (.slice iF dN.length iG):=(af eA.out 1).trans rfl;have Qh:w4.cell? ⟨gm,2,none⟩=some (.string bn):=(af eA.out 2).trans rfl;have XD:w4.cell? ⟨gm,3,none⟩=some (.string eF):=(af eA.out 3).trans rfl;have XE:w4.cell? ⟨gm,4,none⟩=some (.bool bz):=(af eA.out 4).trans rfl;have Lu:=aa eA.out 0;have Lv:=aa eA.out 1;have Qi:=aa eA.out 2;have XF:=aa eA.out 3;have XG:=aa eA.out 4))
   go_ret
   exact ⟨cU,p8⟩
  ·rw [if_neg c3] at H
   have rD:((dN.length:Int) == 0)=false:=beq_eq_false_iff_ne.mpr c3
   have Nt:((dN.length:Int) != 0)=true:=bne_iff_ne.mpr c3
   have atk: ¬ (dN= []):=fun h_ =>c3 (by rw [h_];rfl)
   obtain rfl:=Option.some.inj H
   go_enter Tryz.func20,Tryz.ntmps20
   go_wp2_with (first|((with_reducible refine cK (N:=1) rfl ?_);(try (refine eu (by rfl) ?_;dsimp only));refine cu ?hg (N:=1) ?hd (cs:=#[.bool true,.slice iF dN.length iG,.string bn,.string eF,.bool bz]) (t:=32) ?hr ?_;(case hd=>rfl);(case hg=>rfl);(case hr=>first|(go_simp;done)|(go_simp;rfl));intro gm hg w6 cM hb;have bI:=ah.mk (az cA hb);have bP:=ah.mk (cM);have cw:=ah.mk ((dW:w.heap.size≤gm));have cW:=ah.mk ((dW:w.heap.size≤gm));clear HB;have HB:=bI;have eA:=bP;have N1:=cw;have I9:=cW;clear bI bP cw cW;clear hb cM hg;have GL:w6.cell? ⟨gm,0,none⟩=some (.bool true):=(af eA.out 0).trans rfl;have GM:w6.cell? ⟨gm,1,none⟩=some (.slice iF dN.length iG):=(af eA.out 1).trans rfl;have Qp:w6.cell? ⟨gm,2,none⟩=some (.string bn):=(af eA.out 2).trans rfl;have Qq:w6.cell? ⟨gm,3,none⟩=some (.string eF):=(af eA.out 3).trans rfl;have Qr:w6.cell? ⟨gm,4,none⟩=some (.bool bz):=(af eA.out 4).trans rfl;have GN:=aa eA.out 0;have GP:=aa eA.out 1;have Qs:=aa eA.out 2;have Qt:=aa eA.out 3;have Qu:=aa eA.out 4))
   go_ret
   exact ⟨cU,p8⟩
 ·replace c2:=Bool.eq_false_iff.mpr c2
  subst c2
  have H1:(if (bn.toList == ([112,111,115,116,109,97,115,116,101,114]:List UInt8) && (eF.toList == ([]:List UInt8) && (!bz)))=true then (some ((dN.length:Int) == 0)) else ((dV.f k bn eF bz).bind fun N0=>(if N0=true then (if (dN.length:Int)≤20 then ((b9.f k dN).bind fun E4=>(some (!E4))) else (some false)) else (some false))))=some r:=by rw [if_neg (show ¬ (false=true) by decide)] at H;exact H
  clear H
  have H:=H1
  clear H1
  by_cases c8:(bn.toList == ([112,111,115,116,109,97,115,116,101,114]:List UInt8) && (eF.toList == ([]:List UInt8) && (!bz)))=true
  ·rw [if_pos c8] at H
   have Dy:(bn.toList == ([112,111,115,116,109,97,115,116,101,114]:List UInt8) && (eF.toList == ([]:List UInt8) && (!bz)))=true:=c8
   have c8e:(bn.toList == ([112,111,115,116,109,97,115,116,101,114]:List UInt8))=true∧eF.toList.isEmpty=true∧(!bz)=true:=by {have c_ :=c8;simp only [Bool.and_eq_true] at c_;obtain ⟨h1_,h2_,h3_⟩:=c_;exact ⟨h1_,by rw [beq_iff_eq] at h2_;rw [h2_];rfl,h3_⟩}
   obtain ⟨c8f,c8g,c8h⟩:=c8e
   (try (have Qe:decide (bn.toList=([112,111,115,116,109,97,115,116,101,114]:List UInt8) && (eF.toList == ([]:List UInt8) && (!bz)))=true:=by simpa using c8))
   (try (have aoQ:(bn.toList == ([112,111,115,116,109,97,115,116,101,114]:List UInt8) && (eF.toList == ([]:List UInt8) && (!bz)))=true:=by simpa using c8))
   clear c8
   obtain rfl:=Option.some.inj H
   go_enter Tryz.func20,Tryz.ntmps20
   go_wp2_with (first|((with_reducible refine cK (N:=1) rfl ?_);(try (refine eu (by rfl) ?_;dsimp only));refine cu ?hg (N:=1) ?hd (cs:=#[.bool false,.slice iF dN.length iG,.string bn,.string eF,.bool bz]) (t:=32) ?hr ?_;(case hd=>rfl);(case hg=>rfl);(case hr=>first|(go_simp;done)|(go_simp;rfl));intro gm hg w9 cM hb;have bI:=ah.mk (az cA hb);have bP:=ah.mk (cM);have cw:=ah.mk ((dW:w.heap.size≤gm));have cW:=ah.mk ((dW:w.heap.size≤gm));clear HB;have HB:=bI;have eA:=bP;have N1:=cw;have I9:=cW;clear bI bP cw cW;clear hb cM hg;have LG:w9.cell? ⟨gm,0,none⟩=some (.bool false):=(af eA.out 0).trans rfl;have LH:w9.cell? ⟨gm,1,none⟩=some (.slice iF dN.length iG):=(af eA.out 1).trans rfl;have LI:w9.cell? ⟨gm,2,none⟩=some (.string bn):=(af eA.out 2).trans rfl;have aaT:w9.cell? ⟨gm,3,none⟩=some (.string eF):=(af eA.out 3).trans rfl;have aaU:w9.cell? ⟨gm,4,none⟩=some (.bool bz):=(af eA.out 4).trans rfl;have LJ:=aa eA.out 0;have LK:=aa eA.out 1;have LL:=aa eA.out 2;have aaV:=aa eA.out 3;have aaW:=aa eA.out 4))
   go_ret
   exact ⟨cU,p8⟩
  ·rw [if_neg c8] at H
   have c8e:((bn.toList == ([112,111,115,116,109,97,115,116,101,114]:List UInt8))=true∧eF.toList.isEmpty=true∧(!bz)=true)=False:=eq_false (fun ⟨h1_,h2_,h3_⟩=>c8 (by rw [h1_,show (eF.toList == ([]:List UInt8))=true from by rw [beq_iff_eq];exact List.isEmpty_iff.mp h2_,h3_];rfl))
   have Dy:(bn.toList == ([112,111,115,116,109,97,115,116,101,114]:List UInt8) && (eF.toList == ([]:List UInt8) && (!bz)))=false:=by simpa using c8
   (try (have Qe:decide (bn.toList=([112,111,115,116,109,97,115,116,101,114]:List UInt8) && (eF.toList == ([]:List UInt8) && (!bz)))=false:=by simpa using c8))
   (try (have aoQ:(bn.toList == ([112,111,115,116,109,97,115,116,101,114]:List UInt8) && (eF.toList == ([]:List UInt8) && (!bz)))=false:=by simpa using c8))
   (try (have atl: ¬ (bn.toList=([112,111,115,116,109,97,115,116,101,114]:List UInt8) && (eF.toList == ([]:List UInt8) && (!bz))):=by simpa using c8))
   clear c8
   replace H:=Option.bind_eq_some_iff.mp H
   obtain ⟨N0,XT,H⟩:=H
   replace H:(if N0=true then (if (dN.length:Int)≤20 then ((b9.f k dN).bind fun E4=>(some (!E4))) else (some false)) else (some false))=some r:=H
   have A11:=ah.mk XT
   clear XT
   by_cases c12:N0=true
   ·subst c12
    have H1:(if (dN.length:Int)≤20 then ((b9.f k dN).bind fun E4=>(some (!E4))) else (some false))=some r:=by rw [if_pos rfl] at H;exact H
    clear H
    have H:=H1
    clear H1
    by_cases c13:(dN.length:Int)≤20
    ·rw [if_pos c13] at H
     have G0:decide ((dN.length:Int)≤20)=true:=decide_eq_true c13
     have Ny:decide (dN.length≤20)=true:=decide_eq_true aq
     clear c13
     replace H:=Option.bind_eq_some_iff.mp H
     obtain ⟨E4,CK,H⟩:=H
     replace H:(some (!E4))=some r:=H
     have W7:=ah.mk CK
     clear CK
     obtain rfl:=Option.some.inj H
     go_enter Tryz.func20,Tryz.ntmps20
     go_wp2_with (first|((with_reducible refine cK (N:=1) rfl ?_);(try (refine eu (by rfl) ?_;dsimp only));refine cu ?hg (N:=1) ?hd (cs:=#[.bool false,.slice iF dN.length iG,.string bn,.string eF,.bool bz]) (t:=32) ?hr ?_;(case hd=>rfl);(case hg=>rfl);(case hr=>first|(go_simp;done)|(go_simp;rfl));intro gm hg Jj cM hb;have bI:=ah.mk (az cA hb);have bP:=ah.mk (cM);have cw:=ah.mk ((dW:w.heap.size≤gm));have cW:=ah.mk ((dW:w.heap.size≤gm));clear HB;have HB:=bI;have eA:=bP;have N1:=cw;have I9:=cW;clear bI bP cw cW;clear hb cM hg;have oa:Jj.cell? ⟨gm,0,none⟩=some (.bool false):=(af eA.out 0).trans rfl;have oc:Jj.cell? ⟨gm,1,none⟩=some (.slice iF dN.length iG):=(af eA.out 1).trans rfl;have rJ:Jj.cell? ⟨gm,2,none⟩=some (.string bn):=(af eA.out 2).trans rfl;have uH:Jj.cell? ⟨gm,3,none⟩=some (.string eF):=(af eA.out 3).trans rfl;have uI:Jj.cell? ⟨gm,4,none⟩=some (.bool bz):=(af eA.out 4).trans rfl;have og:=aa eA.out 0;have om:=aa eA.out 1;have rK:=aa eA.out 2;have uJ:=aa eA.out 3;have uK:=aa eA.out 4)|((with_reducible refine aT (f:=63) rfl ?_);refine cC (some 25) rfl rfl Tryz.func63 av rfl #[.agg #[.string bn,.string eF,.bool bz]] rfl cY ?_;(with_reducible refine (dV.calls k bn eF bz true _ ?bg A11.out).mono ?_);(case bg=>exact aW.below HG.out p8);rintro e w17 ⟨rfl,hb⟩;refine ⟨_,rfl,?_⟩;have bI:=ah.mk (aR (g:=gm) (o:= .cells #[.bool false,.slice iF dN.length iG,.string bn,.string eF,.bool bz] 32 (0,0)) Fb hb);have bP:=ah.mk (az p8 hb);clear eA;clear HB;have eA:=bI;have HB:=bP;clear bI bP;(try clear hb);(try clear hb2);(try clear hk);(try clear hi);have zV:w17.cell? ⟨gm,0,none⟩=some (.bool false):=(af eA.out 0).trans rfl;have zW:w17.cell? ⟨gm,1,none⟩=some (.slice iF dN.length iG):=(af eA.out 1).trans rfl;have Cl:w17.cell? ⟨gm,2,none⟩=some (.string bn):=(af eA.out 2).trans rfl;have K4:w17.cell? ⟨gm,3,none⟩=some (.string eF):=(af eA.out 3).trans rfl;have K5:w17.cell? ⟨gm,4,none⟩=some (.bool bz):=(af eA.out 4).trans rfl;have zX:=aa eA.out 0;have zY:=aa eA.out 1;have Cm:=aa eA.out 2;have K6:=aa eA.out 3;have K7:=aa eA.out 4)|(go_at_call 59;(with_reducible refine (b9.calls k _ _ dN E4 _ ?bg ?bY ?eI W7.out).mono ?_);(case bg=>repeat (first|exact (Kd.dI yR.out HB.out)|(with_reducible refine Kd.dZ ?_ _)|(with_reducible refine Kd.eo ?_ _)|(with_reducible refine Kd.eZ ?_)));(case bY=>exact BZ.out);(case eI=>exact aW.below HG.out p8);rintro e Pg ⟨rfl,hb⟩;have bI:=ah.mk (aR (g:=gm) (o:= .cells #[.bool false,.slice iF dN.length iG,.string bn,.string eF,.bool bz] 32 (0,0)) Fb hb);have bP:=ah.mk (az p8 hb);clear eA;clear HB;have eA:=bI;have HB:=bP;clear bI bP;(try clear hb);(try clear hb2);(try clear hk);(try clear hi)))
     try any_goals (exact (c8e.mp (by assumption)).elim)
     go_ret
     exact ⟨cU,p8⟩
    ·rw [if_neg c13] at H
     have G0:decide ((dN.length:Int)≤20)=false:=decide_eq_false c13
     have Ny:decide (dN.length≤20)=false:=decide_eq_false aq
     clear c13
     obtain rfl:=Option.some.inj H
     go_enter Tryz.func20,Tryz.ntmps20
     go_wp2_with (first|((with_reducible refine cK (N:=1) rfl ?_);(try (refine eu (by rfl) ?_;dsimp only));refine cu ?hg (N:=1) ?hd (cs:=#[.bool false,.slice iF dN.length iG,.string bn,.string eF,.bool bz]) (t:=32) ?hr ?_;(case hd=>rfl);(case hg=>rfl);(case hr=>first|(go_simp;done)|(go_simp;rfl));intro gm hg Qg cM hb;have bI:=ah.mk (az cA hb);have bP:=ah.mk (cM);have cw:=ah.mk ((dW:w.heap.size≤gm));have cW:=ah.mk ((dW:w.heap.size≤gm));clear HB;have HB:=bI;have eA:=bP;have N1:=cw;have I9:=cW;clear bI bP cw cW;clear hb cM hg;have rL:Qg.cell? ⟨gm,0,none⟩=some (.bool false):=(af eA.out 0).trans rfl;have rM:Qg.cell? ⟨gm,1,none⟩=some (.slice iF dN.length iG):=(af eA.out 1).trans rfl;have rN:Qg.cell? ⟨gm,2,none⟩=some (.string bn):=(af eA.out 2).trans rfl;have vv:Qg.cell? ⟨gm,3,none⟩=some (.string eF):=(af eA.out 3).trans rfl;have vw:Qg.cell? ⟨gm,4,none⟩=some (.bool bz):=(af eA.out 4).trans rfl;have rO:=aa eA.out 0;have rP:=aa eA.out 1;have rQ:=aa eA.out 2;have vA:=aa eA.out 3;have vB:=aa eA.out 4)|((with_reducible refine aT (f:=63) rfl ?_);refine cC (some 25) rfl rfl Tryz.func63 av rfl #[.agg #[.string bn,.string eF,.bool bz]] rfl cY ?_;(with_reducible refine (dV.calls k bn eF bz true _ ?bg A11.out).mono ?_);(case bg=>exact aW.below HG.out p8);rintro e IC ⟨rfl,hb⟩;refine ⟨_,rfl,?_⟩;have bI:=ah.mk (aR (g:=gm) (o:= .cells #[.bool false,.slice iF dN.length iG,.string bn,.string eF,.bool bz] 32 (0,0)) Fb hb);have bP:=ah.mk (az p8 hb);clear eA;clear HB;have eA:=bI;have HB:=bP;clear bI bP;(try clear hb);(try clear hb2);(try clear hk);(try clear hi);have FM:IC.cell? ⟨gm,0,none⟩=some (.bool false):=(af eA.out 0).trans rfl;have FN:IC.cell? ⟨gm,1,none⟩=some (.slice iF dN.length iG):=(af eA.out 1).trans rfl;have FO:IC.cell? ⟨gm,2,none⟩=some (.string bn):=(af eA.out 2).trans rfl;have TM:IC.cell? ⟨gm,3,none⟩=some (.string eF):=(af eA.out 3).trans rfl;have TN:IC.cell? ⟨gm,4,none⟩=some (.bool bz):=(af eA.out 4).trans rfl;have FP:=aa eA.out 0;have FQ:=aa eA.out 1;have FR:=aa eA.out 2;have TP:=aa eA.out 3;have TQ:=aa eA.out 4))
     try any_goals (exact (c8e.mp (by assumption)).elim)
     go_ret
     exact ⟨cU,p8⟩
   ·replace c12:=Bool.eq_false_iff.mpr c12
    subst c12
    have H1:(some false)=some r:=by rw [if_neg (show ¬ (false=true) by decide)] at H;exact H
    clear H
    have H:=H1
    clear H1
    obtain rfl:=Option.some.inj H
    go_enter Tryz.func20,Tryz.ntmps20
    go_wp2_with (first|((with_reducible refine cK (N:=1) rfl ?_);(try (refine eu (by rfl) ?_;dsimp only));refine cu ?hg (N:=1) ?hd (cs:=#[.bool false,.slice iF dN.length iG,.string bn,.string eF,.bool bz]) (t:=32) ?hr ?_;(case hd=>rfl);(case hg=>rfl);(case hr=>first|(go_simp;done)|(go_simp;rfl));intro gm hg Mh cM hb;have bI:=ah.mk (az cA hb);have bP:=ah.mk (cM);have cw:=ah.mk ((dW:w.heap.size≤gm));have cW:=ah.mk ((dW:w.heap.size≤gm));clear HB;have HB:=bI;have eA:=bP;have N1:=cw;have I9:=cW;clear bI bP cw cW;clear hb cM hg;have vC:Mh.cell? ⟨gm,0,none⟩=some (.bool false):=(af eA.out 0).trans rfl;have vD:Mh.cell? ⟨gm,1,none⟩=some (.slice iF dN.length iG):=(af eA.out 1).trans rfl;have vE:Mh.cell? ⟨gm,2,none⟩=some (.string bn):=(af eA.out 2).trans rfl;have Ao:Mh.cell? ⟨gm,3,none⟩=some (.string eF):=(af eA.out 3).trans rfl;have Ap:Mh.cell? ⟨gm,4,none⟩=some (.bool bz):=(af eA.out 4).trans rfl;have vF:=aa eA.out 0;have vG:=aa eA.out 1;have vH:=aa eA.out 2;have Aq:=aa eA.out 3;have Ar:=aa eA.out 4)|((with_reducible refine aT (f:=63) rfl ?_);refine cC (some 25) rfl rfl Tryz.func63 av rfl #[.agg #[.string bn,.string eF,.bool bz]] rfl cY ?_;(with_reducible refine (dV.calls k bn eF bz false _ ?bg A11.out).mono ?_);(case bg=>exact aW.below HG.out p8);rintro e BF ⟨rfl,hb⟩;refine ⟨_,rfl,?_⟩;have bI:=ah.mk (aR (g:=gm) (o:= .cells #[.bool false,.slice iF dN.length iG,.string bn,.string eF,.bool bz] 32 (0,0)) Fb hb);have bP:=ah.mk (az p8 hb);clear eA;clear HB;have eA:=bI;have HB:=bP;clear bI bP;(try clear hb);(try clear hb2);(try clear hk);(try clear hi)))
    try any_goals (exact (c8e.mp (by assumption)).elim)
    go_ret
    exact ⟨cU,p8⟩
end Go.Proofs.YtokpnfljjjjikaaGreatDoor.n9
