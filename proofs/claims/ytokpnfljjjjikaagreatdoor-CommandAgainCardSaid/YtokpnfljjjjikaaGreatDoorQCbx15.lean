import Derived.Test.YtokpnfljjjjikaaGreatDoorZo
import Derived.Test.YtokpnfljjjjikaaGreatDoorQCbx0
import Derived.Test.YtokpnfljjjjikaaGreatDoorQCbx1
import Derived.Test.YtokpnfljjjjikaaGreatDoorQCbx13
import Derived.Test.YtokpnfljjjjikaaGreatDoorQCbx14
namespace Go.Proofs.YtokpnfljjjjikaaGreatDoor.pJ
open Go.RowKit Go.Proofs.aj.bV Go.Proofs.aj.gq Go.Proofs.aj.dB
attribute [local go_sem] jo jq kM kN iO iP jr jt
set_option linter.unusedVariables false
set_option linter.unusedSimpArgs false
attribute [local go_sem high] Vl
def lJ.f (k:Nat) (a0:ByteArray):Option (Bool):=(lC.f k a0).bind fun Tm=>(some (!Tm))
set_option maxHeartbeats 8000000 in
set_option maxRecDepth 100000 in
theorem lJ.calls (k:Nat) (a0:ByteArray) (r:Bool) (w:World) (hG:aU w) (h:lJ.f k a0=some r):
 Calls Tryz.prog 64 #[.string a0] w fun e w'=>e= .returned (.bool r)∧Below w.heap.size w w':=by
 have HB:=ah.mk (Below.refl w.heap.size w)
 have HG:=ah.mk hG
 clear hG
 have H:((lC.f k a0).bind fun Tm=>(some (!Tm)))=some r:=h
 clear h
 replace H:=Option.bind_eq_some_iff.mp H
 obtain ⟨Tm,nU,H⟩:=H
 replace H:(some (!Tm))=some r:=H
 have A2:=ah.mk nU
 clear nU
 obtain rfl:=Option.some.inj H
 go_enter Tryz.func64,Tryz.ntmps64
 go_wp2_with (first|((with_reducible refine aQ (f:=65) rfl ?_);refine cu (some 4) rfl rfl Tryz.func65 av rfl #[.string a0] rfl cT ?_;(with_reducible refine (lC.calls k a0 Tm _ ?aX A2.out).mono ?_);(case aX=>exact aU.below HG.out bN);rintro e w3 ⟨rfl,hb⟩;refine ⟨_,rfl,?_⟩;have bB:=ah.mk (ay bN hb);clear HB;have HB:=bB;clear bB;(try clear hb);(try clear hb2);(try clear hk);(try clear hi)))
 go_ret
 exact ⟨cR,bN⟩
def bK.l0:Nat→List ByteArray→Int→Int→Option (Int)
 | 0,_,_,_ =>none
 |k + 1,x0,x7,x8=>if x8 < x7 then (if 0≤x8 then (if x8 < (x0.length:Int) then ((lJ.f k (kB ByteArray.empty x0 x8)).bind fun Zp=>(if Zp=true then (some x8) else (bK.l0 k x0 x7 (wrap64 (x8 + 1))))) else (none)) else (none)) else (some (-1))
def bK.f (k:Nat) (l0:List ByteArray):Option (Int):=bK.l0 k l0 (l0.length:Int) 0
set_option maxHeartbeats 8000000 in
set_option maxRecDepth 100000 in
theorem bK.calls (k:Nat) (A0:Option Addr) (c0:Nat) (l0:List ByteArray) (r:Int) (w:World) (zH:Kd.C Kd.string w A0 l0.length l0) (hc0:l0.length≤c0) (hG:aU w) (h:bK.f k l0=some r):
 Calls Tryz.prog 117 #[.slice A0 l0.length c0,.func (.func 64) #[] #[]] w fun e w'=>e= .returned (.int .i64 r)∧Below w.heap.size w w':=by
 have yM:=ah.mk zH
 have Rt:=ah.mk hc0
 clear zH hc0
 have HB:=ah.mk (Below.refl w.heap.size w)
 have HG:=ah.mk hG
 clear hG
 have H:(bK.l0 k l0 (l0.length:Int) 0)=some r:=h
 clear h
 have H':=ah.mk H
 clear H
 go_enter Tryz.func117,Tryz.ntmps117
 go_wp2
 go_loopg [8] k (fun kq v8 w'=>∃ (fA:Int),v8= .int .i64 fA∧ah (bK.l0 kq l0 (l0.length:Int) fA=some r)∧ah (kq≤k)∧ah (Below w.heap.size w w'))
 case atStart=>exact ⟨(0),ey,H',⟨Nat.le_refl _⟩,⟨bN⟩⟩
 case round=>
  clear H'
  try clear c1
  try clear p2
  obtain ⟨fA,rfl,HA,uX,HB⟩:=hrel
  cases gk with
  |zero=>exact absurd HA.out (by simp [bK.l0])
  |succ k1=>
   have H:=HA.out
   clear HA
   simp only [bK.l0] at H
   by_cases c3:fA < (l0.length:Int)
   ·rw [if_pos c3] at H
    have pX:decide (fA < (l0.length:Int))=true:=decide_eq_true c3
    clear c3
    by_cases c4: 0≤fA
    ·rw [if_pos c4] at H
     have o9:decide (0≤fA)=true:=decide_eq_true c4
     clear c4
     by_cases c5:fA < (l0.length:Int)
     ·rw [if_pos c5] at H
      have uB:decide (fA < (l0.length:Int))=true:=decide_eq_true c5
      clear c5
      replace H:=Option.bind_eq_some_iff.mp H
      obtain ⟨Zp,xw,H⟩:=H
      replace H:(if Zp=true then (some fA) else (bK.l0 k1 l0 (l0.length:Int) (wrap64 (fA + 1))))=some r:=H
      have A6:=ah.mk xw
      clear xw
      by_cases c7:Zp=true
      ·subst c7
       have H1:(some fA)=some r:=by rw [if_pos rfl] at H;exact H
       clear H
       have H:=H1
       clear H1
       obtain rfl:=Option.some.inj H
       have OW: 0≤(fA:Int):=of_decide_eq_true cW
       have OX:fA < (l0.length:Int):=of_decide_eq_true cW
       obtain ⟨aeU,acq,wq⟩:=Kd.jA yM.out fA OW OX
       cases acq
       replace wq:=(HB.out.cell (World.block_lt_of_cell? w _ wq)).trans wq
       replace OW:=eq_true OW
       replace OX:=eq_true OX
       go_wp2_with (first|(go_at_call 64;(with_reducible refine (lJ.calls k1 (kB ByteArray.empty l0 fA) true _ ?aX A6.out).mono ?_);(case aX=>exact aU.below HG.out bN);rintro e w8 ⟨rfl,hb⟩;have bB:=ah.mk (ay bN hb);clear HB;have HB:=bB;clear bB;(try clear hb);(try clear hb2);(try clear hk);(try clear hi)))
       go_ret
       exact ⟨cR,bN⟩
      ·replace c7:=Bool.eq_false_iff.mpr c7
       subst c7
       have H1:(bK.l0 k1 l0 (l0.length:Int) (wrap64 (fA + 1)))=some r:=by rw [if_neg (show ¬ (false=true) by decide)] at H;exact H
       clear H
       have H:=H1
       clear H1
       have H':=ah.mk H
       clear H
       have OW: 0≤(fA:Int):=of_decide_eq_true cW
       have OX:fA < (l0.length:Int):=of_decide_eq_true cW
       obtain ⟨aeU,acq,wq⟩:=Kd.jA yM.out fA OW OX
       cases acq
       replace wq:=(HB.out.cell (World.block_lt_of_cell? w _ wq)).trans wq
       replace OW:=eq_true OW
       replace OX:=eq_true OX
       go_wp2_with (first|(go_at_call 64;(with_reducible refine (lJ.calls k1 (kB ByteArray.empty l0 fA) false _ ?aX A6.out).mono ?_);(case aX=>exact aU.below HG.out bN);rintro e w9 ⟨rfl,hb⟩;have bB:=ah.mk (ay bN hb);clear HB;have HB:=bB;clear bB;(try clear hb);(try clear hb2);(try clear hk);(try clear hi)))
       go_roundg k1
       case measure=>have:=uX.out;omega
       case rel=>exact ⟨(wrap64 (fA + 1)),ey,H',⟨j6⟩,⟨bN⟩⟩
     ·rw [if_neg c5] at H
      exact absurd H bn
    ·rw [if_neg c4] at H
     exact absurd H bn
   ·rw [if_neg c3] at H
    have pX:decide (fA < (l0.length:Int))=false:=decide_eq_false c3
    clear c3
    obtain rfl:=Option.some.inj H
    go_wp2
    go_ret
    exact ⟨cR,bN⟩
def cA.f (k:Nat) (l0:List ByteArray):Option (Bool):=(bK.f k l0).bind fun Tn=>(some (decide (Tn≥0)))
set_option maxHeartbeats 8000000 in
set_option maxRecDepth 100000 in
theorem cA.calls (k:Nat) (A0:Option Addr) (c0:Nat) (l0:List ByteArray) (r:Bool) (w:World) (zH:Kd.C Kd.string w A0 l0.length l0) (hc0:l0.length≤c0) (hG:aU w) (h:cA.f k l0=some r):
 Calls Tryz.prog 59 #[.slice A0 l0.length c0,.func (.func 64) #[] #[]] w fun e w'=>e= .returned (.bool r)∧Below w.heap.size w w':=by
 have yM:=ah.mk zH
 have Rt:=ah.mk hc0
 clear zH hc0
 have HB:=ah.mk (Below.refl w.heap.size w)
 have HG:=ah.mk hG
 clear hG
 have H:((bK.f k l0).bind fun Tn=>(some (decide (Tn≥0))))=some r:=h
 clear h
 replace H:=Option.bind_eq_some_iff.mp H
 obtain ⟨Tn,zl,H⟩:=H
 replace H:(some (decide (Tn≥0)))=some r:=H
 have A3:=ah.mk zl
 clear zl
 obtain rfl:=Option.some.inj H
 go_enter Tryz.func59,Tryz.ntmps59
 go_wp2_with (first|((with_reducible refine aQ (f:=117) rfl ?_);refine cu (some 7) rfl rfl Tryz.func117 av rfl #[.slice A0 l0.length c0,.func (.func 64) #[] #[]] rfl cT ?_;(with_reducible refine (bK.calls k _ _ l0 Tn _ ?aX ?bT ?eo A3.out).mono ?_);(case aX=>repeat (first|exact yM.out|(with_reducible refine Kd.eJ ?_ _)|(with_reducible refine Kd.eK ?_ _)|(with_reducible refine Kd.fR ?_)));(case bT=>exact Rt.out);(case eo=>exact aU.below HG.out bN);rintro e w4 ⟨rfl,hb⟩;refine ⟨_,rfl,?_⟩;have bB:=ah.mk (ay bN hb);clear HB;have HB:=bB;clear bB;(try clear hb);(try clear hb2);(try clear hk);(try clear hi)))
 go_ret
 exact ⟨cR,bN⟩
def gy.f (k:Nat) (bg:Bool) (dO:List ByteArray) (bJ:ByteArray) (eD:ByteArray) (bO:Bool):Option (Bool):=if bg=true then (if (dO.length:Int)=0 then (some (bJ.toList == ([]:List UInt8) && (eD.toList == ([]:List UInt8) && (!bO)))) else (some false)) else (if (bJ.toList == ([112,111,115,116,109,97,115,116,101,114]:List UInt8) && (eD.toList == ([]:List UInt8) && (!bO)))=true then (some ((dO.length:Int) == 0)) else ((eG.f k bJ eD bO).bind fun MF=>(if MF=true then (if (dO.length:Int)≤20 then ((cA.f k dO).bind fun Dv=>(some (!Dv))) else (some false)) else (some false))))
set_option maxHeartbeats 8000000 in
set_option maxRecDepth 100000 in
theorem gy.calls (k:Nat) (bg:Bool) (iI:Option Addr) (iJ:Nat) (dO:List ByteArray) (bJ:ByteArray) (eD:ByteArray) (bO:Bool) (r:Bool) (w:World) (CG:Kd.C Kd.string w iI dO.length dO) (CI:dO.length≤iJ) (hG:aU w) (h:gy.f k bg dO bJ eD bO=some r):
 Calls Tryz.prog 20 #[.agg #[.bool bg,.slice iI dO.length iJ,.string bJ,.string eD,.bool bO]] w fun e w'=>e= .returned (.bool r)∧Below w.heap.size w w':=by
 have Oi:=Tryz.underlying32
 have LP:=Tryz.underlying30
 have xg:=ah.mk CG
 have Aj:=ah.mk CI
 clear CG CI
 have HB:=ah.mk (Below.refl w.heap.size w)
 have HG:=ah.mk hG
 clear hG
 have H:(if bg=true then (if (dO.length:Int)=0 then (some (bJ.toList == ([]:List UInt8) && (eD.toList == ([]:List UInt8) && (!bO)))) else (some false)) else (if (bJ.toList == ([112,111,115,116,109,97,115,116,101,114]:List UInt8) && (eD.toList == ([]:List UInt8) && (!bO)))=true then (some ((dO.length:Int) == 0)) else ((eG.f k bJ eD bO).bind fun MF=>(if MF=true then (if (dO.length:Int)≤20 then ((cA.f k dO).bind fun Dv=>(some (!Dv))) else (some false)) else (some false)))))=some r:=h
 clear h
 by_cases c2:bg=true
 ·subst c2
  have H1:(if (dO.length:Int)=0 then (some (bJ.toList == ([]:List UInt8) && (eD.toList == ([]:List UInt8) && (!bO)))) else (some false))=some r:=by rw [if_pos rfl] at H;exact H
  clear H
  have H:=H1
  clear H1
  by_cases c3:(dO.length:Int)=0
  ·rw [if_pos c3] at H
   have pX:((dO.length:Int) == 0)=true:=beq_iff_eq.mpr c3
   have GL:((dO.length:Int) != 0)=false:=bne_eq_false_iff_eq.mpr c3
   clear c3
   obtain rfl:=Option.some.inj H
   go_enter Tryz.func20,Tryz.ntmps20
   go_wp2_with (first|((with_reducible refine cC (N:=1) rfl ?_);(try (refine cO (by rfl) ?_;dsimp only));refine b9 ?hg (N:=1) ?hd (cs:=#[.bool true,.slice iI dO.length iJ,.string bJ,.string eD,.bool bO]) (t:=32) ?hr ?_;(case hd=>rfl);(case hg=>rfl);(case hr=>first|(go_simp;done)|(go_simp;rfl));intro gv hg w4 cJ hb;have bB:=ah.mk (ay bN hb);have bL:=ah.mk (cJ);have bY:=ah.mk ((dz:w.heap.size≤gv));have cK:=ah.mk ((dz:w.heap.size≤gv));clear HB;have HB:=bB;have eA:=bL;have MG:=bY;have G0:=cK;clear bB bL bY cK;clear hb cJ hg;have J4:w4.cell? ⟨gv,0,none⟩=some (.bool true):=(af eA.out 0).trans rfl;have J5:w4.cell? ⟨gv,1,none⟩=some (.slice iI dO.length iJ):=(af eA.out 1).trans rfl;have OO:w4.cell? ⟨gv,2,none⟩=some (.string bJ):=(af eA.out 2).trans rfl;have V8:w4.cell? ⟨gv,3,none⟩=some (.string eD):=(af eA.out 3).trans rfl;have V9:w4.cell? ⟨gv,4,none⟩=some (.bool bO):=(af eA.out 4).trans rfl;have J6:=aa eA.out 0;have J7:=aa eA.out 1;have OP:=aa eA.out 2;have Wa:=aa eA.out 3;have Wb:=aa eA.out 4))
   go_ret
   exact ⟨cR,pQ⟩
  ·rw [if_neg c3] at H
   have pX:((dO.length:Int) == 0)=false:=beq_eq_false_iff_ne.mpr c3
   have GL:((dO.length:Int) != 0)=true:=bne_iff_ne.mpr c3
   have aq2: ¬ (dO= []):=fun h_ =>c3 (by rw [h_];rfl)
   obtain rfl:=Option.some.inj H
   go_enter Tryz.func20,Tryz.ntmps20
   go_wp2_with (first|((with_reducible refine cC (N:=1) rfl ?_);(try (refine cO (by rfl) ?_;dsimp only));refine b9 ?hg (N:=1) ?hd (cs:=#[.bool true,.slice iI dO.length iJ,.string bJ,.string eD,.bool bO]) (t:=32) ?hr ?_;(case hd=>rfl);(case hg=>rfl);(case hr=>first|(go_simp;done)|(go_simp;rfl));intro gv hg w6 cJ hb;have bB:=ah.mk (ay bN hb);have bL:=ah.mk (cJ);have bY:=ah.mk ((dz:w.heap.size≤gv));have cK:=ah.mk ((dz:w.heap.size≤gv));clear HB;have HB:=bB;have eA:=bL;have MG:=bY;have G0:=cK;clear bB bL bY cK;clear hb cJ hg;have Fv:w6.cell? ⟨gv,0,none⟩=some (.bool true):=(af eA.out 0).trans rfl;have Fw:w6.cell? ⟨gv,1,none⟩=some (.slice iI dO.length iJ):=(af eA.out 1).trans rfl;have OY:w6.cell? ⟨gv,2,none⟩=some (.string bJ):=(af eA.out 2).trans rfl;have OZ:w6.cell? ⟨gv,3,none⟩=some (.string eD):=(af eA.out 3).trans rfl;have O0:w6.cell? ⟨gv,4,none⟩=some (.bool bO):=(af eA.out 4).trans rfl;have Fx:=aa eA.out 0;have Fy:=aa eA.out 1;have O1:=aa eA.out 2;have O2:=aa eA.out 3;have O3:=aa eA.out 4))
   go_ret
   exact ⟨cR,pQ⟩
 ·replace c2:=Bool.eq_false_iff.mpr c2
  subst c2
  have H1:(if (bJ.toList == ([112,111,115,116,109,97,115,116,101,114]:List UInt8) && (eD.toList == ([]:List UInt8) && (!bO)))=true then (some ((dO.length:Int) == 0)) else ((eG.f k bJ eD bO).bind fun MF=>(if MF=true then (if (dO.length:Int)≤20 then ((cA.f k dO).bind fun Dv=>(some (!Dv))) else (some false)) else (some false))))=some r:=by rw [if_neg (show ¬ (false=true) by decide)] at H;exact H
  clear H
  have H:=H1
  clear H1
  by_cases c8:(bJ.toList == ([112,111,115,116,109,97,115,116,101,114]:List UInt8) && (eD.toList == ([]:List UInt8) && (!bO)))=true
  ·rw [if_pos c8] at H
   have J3:(bJ.toList == ([112,111,115,116,109,97,115,116,101,114]:List UInt8) && (eD.toList == ([]:List UInt8) && (!bO)))=true:=c8
   have c8e:(bJ.toList == ([112,111,115,116,109,97,115,116,101,114]:List UInt8))=true∧eD.toList.isEmpty=true∧(!bO)=true:=by {have c_ :=c8;simp only [Bool.and_eq_true] at c_;obtain ⟨h1_,h2_,h3_⟩:=c_;exact ⟨h1_,by rw [beq_iff_eq] at h2_;rw [h2_];rfl,h3_⟩}
   obtain ⟨c8f,c8g,c8h⟩:=c8e
   (try (have abE:decide (bJ.toList=([112,111,115,116,109,97,115,116,101,114]:List UInt8) && (eD.toList == ([]:List UInt8) && (!bO)))=true:=by simpa using c8))
   (try (have amZ:(bJ.toList == ([112,111,115,116,109,97,115,116,101,114]:List UInt8) && (eD.toList == ([]:List UInt8) && (!bO)))=true:=by simpa using c8))
   clear c8
   obtain rfl:=Option.some.inj H
   go_enter Tryz.func20,Tryz.ntmps20
   go_wp2_with (first|((with_reducible refine cC (N:=1) rfl ?_);(try (refine cO (by rfl) ?_;dsimp only));refine b9 ?hg (N:=1) ?hd (cs:=#[.bool false,.slice iI dO.length iJ,.string bJ,.string eD,.bool bO]) (t:=32) ?hr ?_;(case hd=>rfl);(case hg=>rfl);(case hr=>first|(go_simp;done)|(go_simp;rfl));intro gv hg w9 cJ hb;have bB:=ah.mk (ay bN hb);have bL:=ah.mk (cJ);have bY:=ah.mk ((dz:w.heap.size≤gv));have cK:=ah.mk ((dz:w.heap.size≤gv));clear HB;have HB:=bB;have eA:=bL;have MG:=bY;have G0:=cK;clear bB bL bY cK;clear hb cJ hg;have Kb:w9.cell? ⟨gv,0,none⟩=some (.bool false):=(af eA.out 0).trans rfl;have Ke:w9.cell? ⟨gv,1,none⟩=some (.slice iI dO.length iJ):=(af eA.out 1).trans rfl;have Kf:w9.cell? ⟨gv,2,none⟩=some (.string bJ):=(af eA.out 2).trans rfl;have Zh:w9.cell? ⟨gv,3,none⟩=some (.string eD):=(af eA.out 3).trans rfl;have Zi:w9.cell? ⟨gv,4,none⟩=some (.bool bO):=(af eA.out 4).trans rfl;have Kg:=aa eA.out 0;have Kh:=aa eA.out 1;have Ki:=aa eA.out 2;have Zj:=aa eA.out 3;have Zk:=aa eA.out 4))
   go_ret
   exact ⟨cR,pQ⟩
  ·rw [if_neg c8] at H
   have c8e:((bJ.toList == ([112,111,115,116,109,97,115,116,101,114]:List UInt8))=true∧eD.toList.isEmpty=true∧(!bO)=true)=False:=eq_false (fun ⟨h1_,h2_,h3_⟩=>c8 (by rw [h1_,show (eD.toList == ([]:List UInt8))=true from by rw [beq_iff_eq];exact List.isEmpty_iff.mp h2_,h3_];rfl))
   have J3:(bJ.toList == ([112,111,115,116,109,97,115,116,101,114]:List UInt8) && (eD.toList == ([]:List UInt8) && (!bO)))=false:=by simpa using c8
   (try (have abE:decide (bJ.toList=([112,111,115,116,109,97,115,116,101,114]:List UInt8) && (eD.toList == ([]:List UInt8) && (!bO)))=false:=by simpa using c8))
   (try (have amZ:(bJ.toList == ([112,111,115,116,109,97,115,116,101,114]:List UInt8) && (eD.toList == ([]:List UInt8) && (!bO)))=false:=by simpa using c8))
   (try (have aq3: ¬ (bJ.toList=([112,111,115,116,109,97,115,116,101,114]:List UInt8) && (eD.toList == ([]:List UInt8) && (!bO))):=by simpa using c8))
   clear c8
   replace H:=Option.bind_eq_some_iff.mp H
   obtain ⟨MF,MH,H⟩:=H
   replace H:(if MF=true then (if (dO.length:Int)≤20 then ((cA.f k dO).bind fun Dv=>(some (!Dv))) else (some false)) else (some false))=some r:=H
   have A11:=ah.mk MH
   clear MH
   by_cases c12:MF=true
   ·subst c12
    have H1:(if (dO.length:Int)≤20 then ((cA.f k dO).bind fun Dv=>(some (!Dv))) else (some false))=some r:=by rw [if_pos rfl] at H;exact H
    clear H
    have H:=H1
    clear H1
    by_cases c13:(dO.length:Int)≤20
    ·rw [if_pos c13] at H
     have FJ:decide ((dO.length:Int)≤20)=true:=decide_eq_true c13
     have Mg:decide (dO.length≤20)=true:=decide_eq_true aq
     clear c13
     replace H:=Option.bind_eq_some_iff.mp H
     obtain ⟨Dv,Bi,H⟩:=H
     replace H:(some (!Dv))=some r:=H
     have Vy:=ah.mk Bi
     clear Bi
     obtain rfl:=Option.some.inj H
     go_enter Tryz.func20,Tryz.ntmps20
     go_wp2_with (first|((with_reducible refine cC (N:=1) rfl ?_);(try (refine cO (by rfl) ?_;dsimp only));refine b9 ?hg (N:=1) ?hd (cs:=#[.bool false,.slice iI dO.length iJ,.string bJ,.string eD,.bool bO]) (t:=32) ?hr ?_;(case hd=>rfl);(case hg=>rfl);(case hr=>first|(go_simp;done)|(go_simp;rfl));intro gv hg Hj cJ hb;have bB:=ah.mk (ay bN hb);have bL:=ah.mk (cJ);have bY:=ah.mk ((dz:w.heap.size≤gv));have cK:=ah.mk ((dz:w.heap.size≤gv));clear HB;have HB:=bB;have eA:=bL;have MG:=bY;have G0:=cK;clear bB bL bY cK;clear hb cJ hg;have nO:Hj.cell? ⟨gv,0,none⟩=some (.bool false):=(af eA.out 0).trans rfl;have nP:Hj.cell? ⟨gv,1,none⟩=some (.slice iI dO.length iJ):=(af eA.out 1).trans rfl;have qR:Hj.cell? ⟨gv,2,none⟩=some (.string bJ):=(af eA.out 2).trans rfl;have s9:Hj.cell? ⟨gv,3,none⟩=some (.string eD):=(af eA.out 3).trans rfl;have td:Hj.cell? ⟨gv,4,none⟩=some (.bool bO):=(af eA.out 4).trans rfl;have nQ:=aa eA.out 0;have nR:=aa eA.out 1;have qT:=aa eA.out 2;have tj:=aa eA.out 3;have tq:=aa eA.out 4)|((with_reducible refine aQ (f:=63) rfl ?_);refine cu (some 25) rfl rfl Tryz.func63 av rfl #[.agg #[.string bJ,.string eD,.bool bO]] rfl cT ?_;(with_reducible refine (eG.calls k bJ eD bO true _ ?aX A11.out).mono ?_);(case aX=>exact aU.below HG.out pQ);rintro e w17 ⟨rfl,hb⟩;refine ⟨_,rfl,?_⟩;have bB:=ah.mk (aM (g:=gv) (o:= .cells #[.bool false,.slice iI dO.length iJ,.string bJ,.string eD,.bool bO] 32 (0,0)) DN hb);have bL:=ah.mk (ay pQ hb);clear eA;clear HB;have eA:=bB;have HB:=bL;clear bB bL;(try clear hb);(try clear hb2);(try clear hk);(try clear hi);have yq:w17.cell? ⟨gv,0,none⟩=some (.bool false):=(af eA.out 0).trans rfl;have yt:w17.cell? ⟨gv,1,none⟩=some (.slice iI dO.length iJ):=(af eA.out 1).trans rfl;have AG:w17.cell? ⟨gv,2,none⟩=some (.string bJ):=(af eA.out 2).trans rfl;have JD:w17.cell? ⟨gv,3,none⟩=some (.string eD):=(af eA.out 3).trans rfl;have JE:w17.cell? ⟨gv,4,none⟩=some (.bool bO):=(af eA.out 4).trans rfl;have yu:=aa eA.out 0;have yw:=aa eA.out 1;have AH:=aa eA.out 2;have JF:=aa eA.out 3;have JG:=aa eA.out 4)|(go_at_call 59;(with_reducible refine (cA.calls k _ _ dO Dv _ ?aX ?bT ?eo Vy.out).mono ?_);(case aX=>repeat (first|exact (Kd.fy xg.out HB.out)|(with_reducible refine Kd.eJ ?_ _)|(with_reducible refine Kd.eK ?_ _)|(with_reducible refine Kd.fR ?_)));(case bT=>exact Aj.out);(case eo=>exact aU.below HG.out pQ);rintro e ze ⟨rfl,hb⟩;have bB:=ah.mk (aM (g:=gv) (o:= .cells #[.bool false,.slice iI dO.length iJ,.string bJ,.string eD,.bool bO] 32 (0,0)) DN hb);have bL:=ah.mk (ay pQ hb);clear eA;clear HB;have eA:=bB;have HB:=bL;clear bB bL;(try clear hb);(try clear hb2);(try clear hk);(try clear hi)))
     try any_goals (exact (c8e.mp (by assumption)).elim)
     go_ret
     exact ⟨cR,pQ⟩
    ·rw [if_neg c13] at H
     have FJ:decide ((dO.length:Int)≤20)=false:=decide_eq_false c13
     have Mg:decide (dO.length≤20)=false:=decide_eq_false aq
     clear c13
     obtain rfl:=Option.some.inj H
     go_enter Tryz.func20,Tryz.ntmps20
     go_wp2_with (first|((with_reducible refine cC (N:=1) rfl ?_);(try (refine cO (by rfl) ?_;dsimp only));refine b9 ?hg (N:=1) ?hd (cs:=#[.bool false,.slice iI dO.length iJ,.string bJ,.string eD,.bool bO]) (t:=32) ?hr ?_;(case hd=>rfl);(case hg=>rfl);(case hr=>first|(go_simp;done)|(go_simp;rfl));intro gv hg OM cJ hb;have bB:=ah.mk (ay bN hb);have bL:=ah.mk (cJ);have bY:=ah.mk ((dz:w.heap.size≤gv));have cK:=ah.mk ((dz:w.heap.size≤gv));clear HB;have HB:=bB;have eA:=bL;have MG:=bY;have G0:=cK;clear bB bL bY cK;clear hb cJ hg;have vM:OM.cell? ⟨gv,0,none⟩=some (.bool false):=(af eA.out 0).trans rfl;have vN:OM.cell? ⟨gv,1,none⟩=some (.slice iI dO.length iJ):=(af eA.out 1).trans rfl;have vO:OM.cell? ⟨gv,2,none⟩=some (.string bJ):=(af eA.out 2).trans rfl;have AJ:OM.cell? ⟨gv,3,none⟩=some (.string eD):=(af eA.out 3).trans rfl;have AK:OM.cell? ⟨gv,4,none⟩=some (.bool bO):=(af eA.out 4).trans rfl;have vP:=aa eA.out 0;have vQ:=aa eA.out 1;have vR:=aa eA.out 2;have AL:=aa eA.out 3;have AO:=aa eA.out 4)|((with_reducible refine aQ (f:=63) rfl ?_);refine cu (some 25) rfl rfl Tryz.func63 av rfl #[.agg #[.string bJ,.string eD,.bool bO]] rfl cT ?_;(with_reducible refine (eG.calls k bJ eD bO true _ ?aX A11.out).mono ?_);(case aX=>exact aU.below HG.out pQ);rintro e Gx ⟨rfl,hb⟩;refine ⟨_,rfl,?_⟩;have bB:=ah.mk (aM (g:=gv) (o:= .cells #[.bool false,.slice iI dO.length iJ,.string bJ,.string eD,.bool bO] 32 (0,0)) DN hb);have bL:=ah.mk (ay pQ hb);clear eA;clear HB;have eA:=bB;have HB:=bL;clear bB bL;(try clear hb);(try clear hb2);(try clear hk);(try clear hi);have EL:Gx.cell? ⟨gv,0,none⟩=some (.bool false):=(af eA.out 0).trans rfl;have EM:Gx.cell? ⟨gv,1,none⟩=some (.slice iI dO.length iJ):=(af eA.out 1).trans rfl;have EN:Gx.cell? ⟨gv,2,none⟩=some (.string bJ):=(af eA.out 2).trans rfl;have Sm:Gx.cell? ⟨gv,3,none⟩=some (.string eD):=(af eA.out 3).trans rfl;have Sn:Gx.cell? ⟨gv,4,none⟩=some (.bool bO):=(af eA.out 4).trans rfl;have EO:=aa eA.out 0;have EP:=aa eA.out 1;have ER:=aa eA.out 2;have Sp:=aa eA.out 3;have Sq:=aa eA.out 4))
     try any_goals (exact (c8e.mp (by assumption)).elim)
     go_ret
     exact ⟨cR,pQ⟩
   ·replace c12:=Bool.eq_false_iff.mpr c12
    subst c12
    have H1:(some false)=some r:=by rw [if_neg (show ¬ (false=true) by decide)] at H;exact H
    clear H
    have H:=H1
    clear H1
    obtain rfl:=Option.some.inj H
    go_enter Tryz.func20,Tryz.ntmps20
    go_wp2_with (first|((with_reducible refine cC (N:=1) rfl ?_);(try (refine cO (by rfl) ?_;dsimp only));refine b9 ?hg (N:=1) ?hd (cs:=#[.bool false,.slice iI dO.length iJ,.string bJ,.string eD,.bool bO]) (t:=32) ?hr ?_;(case hd=>rfl);(case hg=>rfl);(case hr=>first|(go_simp;done)|(go_simp;rfl));intro gv hg KW cJ hb;have bB:=ah.mk (ay bN hb);have bL:=ah.mk (cJ);have bY:=ah.mk ((dz:w.heap.size≤gv));have cK:=ah.mk ((dz:w.heap.size≤gv));clear HB;have HB:=bB;have eA:=bL;have MG:=bY;have G0:=cK;clear bB bL bY cK;clear hb cJ hg;have ud:KW.cell? ⟨gv,0,none⟩=some (.bool false):=(af eA.out 0).trans rfl;have ue:KW.cell? ⟨gv,1,none⟩=some (.slice iI dO.length iJ):=(af eA.out 1).trans rfl;have uf:KW.cell? ⟨gv,2,none⟩=some (.string bJ):=(af eA.out 2).trans rfl;have yC:KW.cell? ⟨gv,3,none⟩=some (.string eD):=(af eA.out 3).trans rfl;have yD:KW.cell? ⟨gv,4,none⟩=some (.bool bO):=(af eA.out 4).trans rfl;have ug:=aa eA.out 0;have uh:=aa eA.out 1;have uj:=aa eA.out 2;have yE:=aa eA.out 3;have yF:=aa eA.out 4)|((with_reducible refine aQ (f:=63) rfl ?_);refine cu (some 25) rfl rfl Tryz.func63 av rfl #[.agg #[.string bJ,.string eD,.bool bO]] rfl cT ?_;(with_reducible refine (eG.calls k bJ eD bO false _ ?aX A11.out).mono ?_);(case aX=>exact aU.below HG.out pQ);rintro e zK ⟨rfl,hb⟩;refine ⟨_,rfl,?_⟩;have bB:=ah.mk (aM (g:=gv) (o:= .cells #[.bool false,.slice iI dO.length iJ,.string bJ,.string eD,.bool bO] 32 (0,0)) DN hb);have bL:=ah.mk (ay pQ hb);clear eA;clear HB;have eA:=bB;have HB:=bL;clear bB bL;(try clear hb);(try clear hb2);(try clear hk);(try clear hi)))
    try any_goals (exact (c8e.mp (by assumption)).elim)
    go_ret
    exact ⟨cR,pQ⟩
end Go.Proofs.YtokpnfljjjjikaaGreatDoor.pJ
