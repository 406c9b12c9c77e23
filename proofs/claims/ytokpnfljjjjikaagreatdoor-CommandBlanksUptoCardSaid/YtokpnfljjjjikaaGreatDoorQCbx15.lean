import Derived.Test.YtokpnfljjjjikaaGreatDoorQCbx14
set_option maxHeartbeats 8000000
set_option maxRecDepth 100000
namespace Go.Proofs.YtokpnfljjjjikaaGreatDoor.nK
open Go.RowKit Go.Proofs.aj.bQ Go.Proofs.aj.fR Go.Proofs.aj.cM
attribute [local go_sem] iY iZ ku kA ig ij jc jd
set_option linter.unusedVariables false
set_option linter.unusedSimpArgs false
attribute [local go_sem high] UI
def kB.f (k:Nat) (a0:ByteArray):Option (Bool):=(j5.f k a0).bind fun SX=>(some (!SX))
theorem kB.calls (k:Nat) (a0:ByteArray) (r:Bool) (w:World) (hG:aQ w) (h:kB.f k a0=some r):
 Calls Tryz.prog 64 #[.string a0] w fun e w'=>e= .returned (.bool r)∧Below w.heap.size w w':=by
 have HB:=ah.mk (Below.refl w.heap.size w)
 have HG:=ah.mk hG
 clear hG
 have H:((j5.f k a0).bind fun SX=>(some (!SX)))=some r:=h
 clear h
 replace H:=Option.bind_eq_some_iff.mp H
 obtain ⟨SX,nr,H⟩:=H
 replace H:(some (!SX))=some r:=H
 have A2:=ah.mk nr
 clear nr
 obtain rfl:=Option.some.inj H
 go_enter Tryz.func64,Tryz.ntmps64
 go_wp2_with (first|((with_reducible refine aU (f:=65) rfl ?_);refine cB (some 4) rfl rfl Tryz.func65 av rfl #[.string a0] rfl cX ?_;(with_reducible refine (j5.calls k a0 SX _ ?aW A2.out).mono ?_);(case aW=>exact aQ.below HG.out cw);rintro e w3 ⟨rfl,hb⟩;refine ⟨_,rfl,?_⟩;have bL:=ah.mk (aC cw hb);clear HB;have HB:=bL;clear bL;(try clear hb);(try clear hb2);(try clear hk);(try clear hi)))
 go_ret
 exact ⟨cO,cw⟩
def bE.l0:Nat→List ByteArray→Int→Int→Option (Int)
 | 0,_,_,_ =>none
 |k + 1,x0,x7,x8=>if x8 < x7 then (if 0≤x8 then (if x8 < (x0.length:Int) then ((kB.f k (jZ ByteArray.empty x0 x8)).bind fun YG=>(if YG=true then (some x8) else (bE.l0 k x0 x7 (wrap64 (x8 + 1))))) else (none)) else (none)) else (some (-1))
def bE.f (k:Nat) (l0:List ByteArray):Option (Int):=bE.l0 k l0 (l0.length:Int) 0
theorem bE.calls (k:Nat) (A0:Option Addr) (c0:Nat) (l0:List ByteArray) (r:Int) (w:World) (zm:Kd.C Kd.string w A0 l0.length l0) (hc0:l0.length≤c0) (hG:aQ w) (h:bE.f k l0=some r):
 Calls Tryz.prog 117 #[.slice A0 l0.length c0,.func (.func 64) #[] #[]] w fun e w'=>e= .returned (.int .i64 r)∧Below w.heap.size w w':=by
 have xG:=ah.mk zm
 have Qf:=ah.mk hc0
 clear zm hc0
 have HB:=ah.mk (Below.refl w.heap.size w)
 have HG:=ah.mk hG
 clear hG
 have H:(bE.l0 k l0 (l0.length:Int) 0)=some r:=h
 clear h
 have H':=ah.mk H
 clear H
 go_enter Tryz.func117,Tryz.ntmps117
 go_wp2
 go_loopg [8] k (fun kq v8 w'=>∃ (eJ:Int),v8= .int .i64 eJ∧ah (bE.l0 kq l0 (l0.length:Int) eJ=some r)∧ah (kq≤k)∧ah (Below w.heap.size w w'))
 case atStart=>exact ⟨(0),dG,H',⟨Nat.le_refl _⟩,⟨cw⟩⟩
 case round=>
  clear H'
  try clear c1
  try clear p2
  obtain ⟨eJ,rfl,HA,uz,HB⟩:=hrel
  cases gk with
  |zero=>exact absurd HA.out (by simp [bE.l0])
  |succ k1=>
   have H:=HA.out
   clear HA
   simp only [bE.l0] at H
   by_cases c3:eJ < (l0.length:Int)
   ·rw [if_pos c3] at H
    have pW:decide (eJ < (l0.length:Int))=true:=decide_eq_true c3
    clear c3
    by_cases c4: 0≤eJ
    ·rw [if_pos c4] at H
     have oC:decide (0≤eJ)=true:=decide_eq_true c4
     clear c4
     by_cases c5:eJ < (l0.length:Int)
     ·rw [if_pos c5] at H
      have tR:decide (eJ < (l0.length:Int))=true:=decide_eq_true c5
      clear c5
      replace H:=Option.bind_eq_some_iff.mp H
      obtain ⟨YG,wK,H⟩:=H
      replace H:(if YG=true then (some eJ) else (bE.l0 k1 l0 (l0.length:Int) (wrap64 (eJ + 1))))=some r:=H
      have A6:=ah.mk wK
      clear wK
      by_cases c7:YG=true
      ·subst c7
       have H1:(some eJ)=some r:=by rw [if_pos rfl] at H;exact H
       clear H
       have H:=H1
       clear H1
       obtain rfl:=Option.some.inj H
       have OH: 0≤(eJ:Int):=of_decide_eq_true cL
       have OI:eJ < (l0.length:Int):=of_decide_eq_true cL
       obtain ⟨ad0,abC,vM⟩:=Kd.jk xG.out eJ OH OI
       cases abC
       replace vM:=(HB.out.cell (World.block_lt_of_cell? w _ vM)).trans vM
       replace OH:=eq_true OH
       replace OI:=eq_true OI
       go_wp2_with (first|(go_at_call 64;(with_reducible refine (kB.calls k1 (jZ ByteArray.empty l0 eJ) true _ ?aW A6.out).mono ?_);(case aW=>exact aQ.below HG.out cw);rintro e w8 ⟨rfl,hb⟩;have bL:=ah.mk (aC cw hb);clear HB;have HB:=bL;clear bL;(try clear hb);(try clear hb2);(try clear hk);(try clear hi)))
       go_ret
       exact ⟨cO,cw⟩
      ·replace c7:=Bool.eq_false_iff.mpr c7
       subst c7
       have H1:(bE.l0 k1 l0 (l0.length:Int) (wrap64 (eJ + 1)))=some r:=by rw [if_neg (show ¬ (false=true) by decide)] at H;exact H
       clear H
       have H:=H1
       clear H1
       have H':=ah.mk H
       clear H
       have OH: 0≤(eJ:Int):=of_decide_eq_true cL
       have OI:eJ < (l0.length:Int):=of_decide_eq_true cL
       obtain ⟨ad0,abC,vM⟩:=Kd.jk xG.out eJ OH OI
       cases abC
       replace vM:=(HB.out.cell (World.block_lt_of_cell? w _ vM)).trans vM
       replace OH:=eq_true OH
       replace OI:=eq_true OI
       go_wp2_with (first|(go_at_call 64;(with_reducible refine (kB.calls k1 (jZ ByteArray.empty l0 eJ) false _ ?aW A6.out).mono ?_);(case aW=>exact aQ.below HG.out cw);rintro e w9 ⟨rfl,hb⟩;have bL:=ah.mk (aC cw hb);clear HB;have HB:=bL;clear bL;(try clear hb);(try clear hb2);(try clear hk);(try clear hi)))
       go_roundg k1
       case measure=>have:=uz.out;omega
       case rel=>exact ⟨(wrap64 (eJ + 1)),dG,H',⟨kX⟩,⟨cw⟩⟩
     ·rw [if_neg c5] at H
      exact absurd H aV
    ·rw [if_neg c4] at H
     exact absurd H aV
   ·rw [if_neg c3] at H
    have pW:decide (eJ < (l0.length:Int))=false:=decide_eq_false c3
    clear c3
    obtain rfl:=Option.some.inj H
    go_wp2
    go_ret
    exact ⟨cO,cw⟩
def bZ.f (k:Nat) (l0:List ByteArray):Option (Bool):=(bE.f k l0).bind fun SY=>(some (decide (SY≥0)))
theorem bZ.calls (k:Nat) (A0:Option Addr) (c0:Nat) (l0:List ByteArray) (r:Bool) (w:World) (zm:Kd.C Kd.string w A0 l0.length l0) (hc0:l0.length≤c0) (hG:aQ w) (h:bZ.f k l0=some r):
 Calls Tryz.prog 59 #[.slice A0 l0.length c0,.func (.func 64) #[] #[]] w fun e w'=>e= .returned (.bool r)∧Below w.heap.size w w':=by
 have xG:=ah.mk zm
 have Qf:=ah.mk hc0
 clear zm hc0
 have HB:=ah.mk (Below.refl w.heap.size w)
 have HG:=ah.mk hG
 clear hG
 have H:((bE.f k l0).bind fun SY=>(some (decide (SY≥0))))=some r:=h
 clear h
 replace H:=Option.bind_eq_some_iff.mp H
 obtain ⟨SY,zf,H⟩:=H
 replace H:(some (decide (SY≥0)))=some r:=H
 have A3:=ah.mk zf
 clear zf
 obtain rfl:=Option.some.inj H
 go_enter Tryz.func59,Tryz.ntmps59
 go_wp2_with (first|((with_reducible refine aU (f:=117) rfl ?_);refine cB (some 7) rfl rfl Tryz.func117 av rfl #[.slice A0 l0.length c0,.func (.func 64) #[] #[]] rfl cX ?_;(with_reducible refine (bE.calls k _ _ l0 SY _ ?aW ?bY ?eO A3.out).mono ?_);(case aW=>repeat (first|exact xG.out|(with_reducible refine Kd.dZ ?_ _)|(with_reducible refine Kd.eo ?_ _)|(with_reducible refine Kd.eZ ?_)));(case bY=>exact Qf.out);(case eO=>exact aQ.below HG.out cw);rintro e w4 ⟨rfl,hb⟩;refine ⟨_,rfl,?_⟩;have bL:=ah.mk (aC cw hb);clear HB;have HB:=bL;clear bL;(try clear hb);(try clear hb2);(try clear hk);(try clear hi)))
 go_ret
 exact ⟨cO,cw⟩
def fy.f (k:Nat) (aI:Bool) (dD:List ByteArray) (bp:ByteArray) (dY:ByteArray) (bC:Bool):Option (Bool):=if aI=true then (if (dD.length:Int)=0 then (some (bp.toList == ([]:List UInt8) && (dY.toList == ([]:List UInt8) && (!bC)))) else (some false)) else (if (bp.toList == ([112,111,115,116,109,97,115,116,101,114]:List UInt8) && (dY.toList == ([]:List UInt8) && (!bC)))=true then (some ((dD.length:Int) == 0)) else ((dL.f k bp dY bC).bind fun Mw=>(if Mw=true then (if (dD.length:Int)≤20 then ((bZ.f k dD).bind fun Dw=>(some (!Dw))) else (some false)) else (some false))))
theorem fy.calls (k:Nat) (aI:Bool) (gW:Option Addr) (gX:Nat) (dD:List ByteArray) (bp:ByteArray) (dY:ByteArray) (bC:Bool) (r:Bool) (w:World) (CF:Kd.C Kd.string w gW dD.length dD) (CG:dD.length≤gX) (hG:aQ w) (h:fy.f k aI dD bp dY bC=some r):
 Calls Tryz.prog 20 #[.agg #[.bool aI,.slice gW dD.length gX,.string bp,.string dY,.bool bC]] w fun e w'=>e= .returned (.bool r)∧Below w.heap.size w w':=by
 have Oc:=Tryz.underlying32
 have LR:=Tryz.underlying30
 have wR:=ah.mk CF
 have Ac:=ah.mk CG
 clear CF CG
 have HB:=ah.mk (Below.refl w.heap.size w)
 have HG:=ah.mk hG
 clear hG
 have H:(if aI=true then (if (dD.length:Int)=0 then (some (bp.toList == ([]:List UInt8) && (dY.toList == ([]:List UInt8) && (!bC)))) else (some false)) else (if (bp.toList == ([112,111,115,116,109,97,115,116,101,114]:List UInt8) && (dY.toList == ([]:List UInt8) && (!bC)))=true then (some ((dD.length:Int) == 0)) else ((dL.f k bp dY bC).bind fun Mw=>(if Mw=true then (if (dD.length:Int)≤20 then ((bZ.f k dD).bind fun Dw=>(some (!Dw))) else (some false)) else (some false)))))=some r:=h
 clear h
 by_cases c2:aI=true
 ·subst c2
  have H1:(if (dD.length:Int)=0 then (some (bp.toList == ([]:List UInt8) && (dY.toList == ([]:List UInt8) && (!bC)))) else (some false))=some r:=by rw [if_pos rfl] at H;exact H
  clear H
  have H:=H1
  clear H1
  by_cases c3:(dD.length:Int)=0
  ·rw [if_pos c3] at H
   have pW:((dD.length:Int) == 0)=true:=beq_iff_eq.mpr c3
   have LN:((dD.length:Int) != 0)=false:=bne_eq_false_iff_eq.mpr c3
   clear c3
   obtain rfl:=Option.some.inj H
   go_enter Tryz.func20,Tryz.ntmps20
   go_wp2_with (first|((with_reducible refine cQ (N:=1) rfl ?_);(try (refine dS (by rfl) ?_;dsimp only));refine cE ?hg (N:=1) ?hd (cs:=#[.bool true,.slice gW dD.length gX,.string bp,.string dY,.bool bC]) (t:=32) ?hr ?_;(case hd=>rfl);(case hg=>rfl);(case hr=>first|(go_simp;done)|(go_simp;rfl));intro fU hg w4 cY hb;have bL:=ah.mk (aC cw hb);have bS:=ah.mk (cY);have cG:=ah.mk ((dQ:w.heap.size≤fU));have dA:=ah.mk ((dQ:w.heap.size≤fU));clear HB;have HB:=bL;have dW:=bS;have Mx:=cG;have Gy:=dA;clear bL bS cG dA;clear hb cY hg;have wW:w4.cell? ⟨fU,0,none⟩=some (.bool true):=(af dW.out 0).trans rfl;have wX:w4.cell? ⟨fU,1,none⟩=some (.slice gW dD.length gX):=(af dW.out 1).trans rfl;have zy:w4.cell? ⟨fU,2,none⟩=some (.string bp):=(af dW.out 2).trans rfl;have B0:w4.cell? ⟨fU,3,none⟩=some (.string dY):=(af dW.out 3).trans rfl;have B6:w4.cell? ⟨fU,4,none⟩=some (.bool bC):=(af dW.out 4).trans rfl;have wY:=aa dW.out 0;have wZ:=aa dW.out 1;have zz:=aa dW.out 2;have Ca:=aa dW.out 3;have Cb:=aa dW.out 4))
   go_ret
   exact ⟨cO,oU⟩
  ·rw [if_neg c3] at H
   have pW:((dD.length:Int) == 0)=false:=beq_eq_false_iff_ne.mpr c3
   have LN:((dD.length:Int) != 0)=true:=bne_iff_ne.mpr c3
   have amt: ¬ (dD= []):=fun h_ =>c3 (by rw [h_];rfl)
   obtain rfl:=Option.some.inj H
   go_enter Tryz.func20,Tryz.ntmps20
   go_wp2_with (first|((with_reducible refine cQ (N:=1) rfl ?_);(try (refine dS (by rfl) ?_;dsimp only));refine cE ?hg (N:=1) ?hd (cs:=#[.bool true,.slice gW dD.length gX,.string bp,.string dY,.bool bC]) (t:=32) ?hr ?_;(case hd=>rfl);(case hg=>rfl);(case hr=>first|(go_simp;done)|(go_simp;rfl));intro fU hg w6 cY hb;have bL:=ah.mk (aC cw hb);have bS:=ah.mk (cY);have cG:=ah.mk ((dQ:w.heap.size≤fU));have dA:=ah.mk ((dQ:w.heap.size≤fU));clear HB;have HB:=bL;have dW:=bS;have Mx:=cG;have Gy:=dA;clear bL bS cG dA;clear hb cY hg;have ER:w6.cell? ⟨fU,0,none⟩=some (.bool true):=(af dW.out 0).trans rfl;have ES:w6.cell? ⟨fU,1,none⟩=some (.slice gW dD.length gX):=(af dW.out 1).trans rfl;have OJ:w6.cell? ⟨fU,2,none⟩=some (.string bp):=(af dW.out 2).trans rfl;have OL:w6.cell? ⟨fU,3,none⟩=some (.string dY):=(af dW.out 3).trans rfl;have OM:w6.cell? ⟨fU,4,none⟩=some (.bool bC):=(af dW.out 4).trans rfl;have ET:=aa dW.out 0;have EU:=aa dW.out 1;have OO:=aa dW.out 2;have OP:=aa dW.out 3;have OQ:=aa dW.out 4))
   go_ret
   exact ⟨cO,oU⟩
 ·replace c2:=Bool.eq_false_iff.mpr c2
  subst c2
  have H1:(if (bp.toList == ([112,111,115,116,109,97,115,116,101,114]:List UInt8) && (dY.toList == ([]:List UInt8) && (!bC)))=true then (some ((dD.length:Int) == 0)) else ((dL.f k bp dY bC).bind fun Mw=>(if Mw=true then (if (dD.length:Int)≤20 then ((bZ.f k dD).bind fun Dw=>(some (!Dw))) else (some false)) else (some false))))=some r:=by rw [if_neg (show ¬ (false=true) by decide)] at H;exact H
  clear H
  have H:=H1
  clear H1
  by_cases c8:(bp.toList == ([112,111,115,116,109,97,115,116,101,114]:List UInt8) && (dY.toList == ([]:List UInt8) && (!bC)))=true
  ·rw [if_pos c8] at H
   have JM:(bp.toList == ([112,111,115,116,109,97,115,116,101,114]:List UInt8) && (dY.toList == ([]:List UInt8) && (!bC)))=true:=c8
   have c8e:(bp.toList == ([112,111,115,116,109,97,115,116,101,114]:List UInt8))=true∧dY.toList.isEmpty=true∧(!bC)=true:=by {have c_ :=c8;simp only [Bool.and_eq_true] at c_;obtain ⟨h1_,h2_,h3_⟩:=c_;exact ⟨h1_,by rw [beq_iff_eq] at h2_;rw [h2_];rfl,h3_⟩}
   obtain ⟨c8f,c8g,c8h⟩:=c8e
   (try (have aaT:decide (bp.toList=([112,111,115,116,109,97,115,116,101,114]:List UInt8) && (dY.toList == ([]:List UInt8) && (!bC)))=true:=by simpa using c8))
   (try (have aiI:(bp.toList == ([112,111,115,116,109,97,115,116,101,114]:List UInt8) && (dY.toList == ([]:List UInt8) && (!bC)))=true:=by simpa using c8))
   clear c8
   obtain rfl:=Option.some.inj H
   go_enter Tryz.func20,Tryz.ntmps20
   go_wp2_with (first|((with_reducible refine cQ (N:=1) rfl ?_);(try (refine dS (by rfl) ?_;dsimp only));refine cE ?hg (N:=1) ?hd (cs:=#[.bool false,.slice gW dD.length gX,.string bp,.string dY,.bool bC]) (t:=32) ?hr ?_;(case hd=>rfl);(case hg=>rfl);(case hr=>first|(go_simp;done)|(go_simp;rfl));intro fU hg w9 cY hb;have bL:=ah.mk (aC cw hb);have bS:=ah.mk (cY);have cG:=ah.mk ((dQ:w.heap.size≤fU));have dA:=ah.mk ((dQ:w.heap.size≤fU));clear HB;have HB:=bL;have dW:=bS;have Mx:=cG;have Gy:=dA;clear bL bS cG dA;clear hb cY hg;have J0:w9.cell? ⟨fU,0,none⟩=some (.bool false):=(af dW.out 0).trans rfl;have J1:w9.cell? ⟨fU,1,none⟩=some (.slice gW dD.length gX):=(af dW.out 1).trans rfl;have J2:w9.cell? ⟨fU,2,none⟩=some (.string bp):=(af dW.out 2).trans rfl;have Yy:w9.cell? ⟨fU,3,none⟩=some (.string dY):=(af dW.out 3).trans rfl;have Yz:w9.cell? ⟨fU,4,none⟩=some (.bool bC):=(af dW.out 4).trans rfl;have J3:=aa dW.out 0;have J4:=aa dW.out 1;have J5:=aa dW.out 2;have YA:=aa dW.out 3;have YB:=aa dW.out 4))
   go_ret
   exact ⟨cO,oU⟩
  ·rw [if_neg c8] at H
   have c8e:((bp.toList == ([112,111,115,116,109,97,115,116,101,114]:List UInt8))=true∧dY.toList.isEmpty=true∧(!bC)=true)=False:=eq_false (fun ⟨h1_,h2_,h3_⟩=>c8 (by rw [h1_,show (dY.toList == ([]:List UInt8))=true from by rw [beq_iff_eq];exact List.isEmpty_iff.mp h2_,h3_];rfl))
   have JM:(bp.toList == ([112,111,115,116,109,97,115,116,101,114]:List UInt8) && (dY.toList == ([]:List UInt8) && (!bC)))=false:=by simpa using c8
   (try (have aaT:decide (bp.toList=([112,111,115,116,109,97,115,116,101,114]:List UInt8) && (dY.toList == ([]:List UInt8) && (!bC)))=false:=by simpa using c8))
   (try (have aiI:(bp.toList == ([112,111,115,116,109,97,115,116,101,114]:List UInt8) && (dY.toList == ([]:List UInt8) && (!bC)))=false:=by simpa using c8))
   (try (have amu: ¬ (bp.toList=([112,111,115,116,109,97,115,116,101,114]:List UInt8) && (dY.toList == ([]:List UInt8) && (!bC))):=by simpa using c8))
   clear c8
   replace H:=Option.bind_eq_some_iff.mp H
   obtain ⟨Mw,VC,H⟩:=H
   replace H:(if Mw=true then (if (dD.length:Int)≤20 then ((bZ.f k dD).bind fun Dw=>(some (!Dw))) else (some false)) else (some false))=some r:=H
   have A11:=ah.mk VC
   clear VC
   by_cases c12:Mw=true
   ·subst c12
    have H1:(if (dD.length:Int)≤20 then ((bZ.f k dD).bind fun Dw=>(some (!Dw))) else (some false))=some r:=by rw [if_pos rfl] at H;exact H
    clear H
    have H:=H1
    clear H1
    by_cases c13:(dD.length:Int)≤20
    ·rw [if_pos c13] at H
     have E8:decide ((dD.length:Int)≤20)=true:=decide_eq_true c13
     have L3:decide (dD.length≤20)=true:=decide_eq_true aq
     clear c13
     replace H:=Option.bind_eq_some_iff.mp H
     obtain ⟨Dw,Bd,H⟩:=H
     replace H:(some (!Dw))=some r:=H
     have UR:=ah.mk Bd
     clear Bd
     obtain rfl:=Option.some.inj H
     go_enter Tryz.func20,Tryz.ntmps20
     go_wp2_with (first|((with_reducible refine cQ (N:=1) rfl ?_);(try (refine dS (by rfl) ?_;dsimp only));refine cE ?hg (N:=1) ?hd (cs:=#[.bool false,.slice gW dD.length gX,.string bp,.string dY,.bool bC]) (t:=32) ?hr ?_;(case hd=>rfl);(case hg=>rfl);(case hr=>first|(go_simp;done)|(go_simp;rfl));intro fU hg GP cY hb;have bL:=ah.mk (aC cw hb);have bS:=ah.mk (cY);have cG:=ah.mk ((dQ:w.heap.size≤fU));have dA:=ah.mk ((dQ:w.heap.size≤fU));clear HB;have HB:=bL;have dW:=bS;have Mx:=cG;have Gy:=dA;clear bL bS cG dA;clear hb cY hg;have nu:GP.cell? ⟨fU,0,none⟩=some (.bool false):=(af dW.out 0).trans rfl;have nv:GP.cell? ⟨fU,1,none⟩=some (.slice gW dD.length gX):=(af dW.out 1).trans rfl;have qp:GP.cell? ⟨fU,2,none⟩=some (.string bp):=(af dW.out 2).trans rfl;have sM:GP.cell? ⟨fU,3,none⟩=some (.string dY):=(af dW.out 3).trans rfl;have sN:GP.cell? ⟨fU,4,none⟩=some (.bool bC):=(af dW.out 4).trans rfl;have ny:=aa dW.out 0;have nA:=aa dW.out 1;have qq:=aa dW.out 2;have sO:=aa dW.out 3;have sP:=aa dW.out 4)|((with_reducible refine aU (f:=63) rfl ?_);refine cB (some 25) rfl rfl Tryz.func63 av rfl #[.agg #[.string bp,.string dY,.bool bC]] rfl cX ?_;(with_reducible refine (dL.calls k bp dY bC true _ ?aW A11.out).mono ?_);(case aW=>exact aQ.below HG.out oU);rintro e w17 ⟨rfl,hb⟩;refine ⟨_,rfl,?_⟩;have bL:=ah.mk (aX (g:=fU) (o:= .cells #[.bool false,.slice gW dD.length gX,.string bp,.string dY,.bool bC] 32 (0,0)) H7 hb);have bS:=ah.mk (aC oU hb);clear dW;clear HB;have dW:=bL;have HB:=bS;clear bL bS;(try clear hb);(try clear hb2);(try clear hk);(try clear hi);have xS:w17.cell? ⟨fU,0,none⟩=some (.bool false):=(af dW.out 0).trans rfl;have xU:w17.cell? ⟨fU,1,none⟩=some (.slice gW dD.length gX):=(af dW.out 1).trans rfl;have Au:w17.cell? ⟨fU,2,none⟩=some (.string bp):=(af dW.out 2).trans rfl;have Jl:w17.cell? ⟨fU,3,none⟩=some (.string dY):=(af dW.out 3).trans rfl;have Jm:w17.cell? ⟨fU,4,none⟩=some (.bool bC):=(af dW.out 4).trans rfl;have xV:=aa dW.out 0;have xW:=aa dW.out 1;have Av:=aa dW.out 2;have Jn:=aa dW.out 3;have Jo:=aa dW.out 4)|(go_at_call 59;(with_reducible refine (bZ.calls k _ _ dD Dw _ ?aW ?bY ?eO UR.out).mono ?_);(case aW=>repeat (first|exact (Kd.eF wR.out HB.out)|(with_reducible refine Kd.dZ ?_ _)|(with_reducible refine Kd.eo ?_ _)|(with_reducible refine Kd.eZ ?_)));(case bY=>exact Ac.out);(case eO=>exact aQ.below HG.out oU);rintro e LZ ⟨rfl,hb⟩;have bL:=ah.mk (aX (g:=fU) (o:= .cells #[.bool false,.slice gW dD.length gX,.string bp,.string dY,.bool bC] 32 (0,0)) H7 hb);have bS:=ah.mk (aC oU hb);clear dW;clear HB;have dW:=bL;have HB:=bS;clear bL bS;(try clear hb);(try clear hb2);(try clear hk);(try clear hi)))
     try any_goals (exact (c8e.mp (by assumption)).elim)
     go_ret
     exact ⟨cO,oU⟩
    ·rw [if_neg c13] at H
     have E8:decide ((dD.length:Int)≤20)=false:=decide_eq_false c13
     have L3:decide (dD.length≤20)=false:=decide_eq_false aq
     clear c13
     obtain rfl:=Option.some.inj H
     go_enter Tryz.func20,Tryz.ntmps20
     go_wp2_with (first|((with_reducible refine cQ (N:=1) rfl ?_);(try (refine dS (by rfl) ?_;dsimp only));refine cE ?hg (N:=1) ?hd (cs:=#[.bool false,.slice gW dD.length gX,.string bp,.string dY,.bool bC]) (t:=32) ?hr ?_;(case hd=>rfl);(case hg=>rfl);(case hr=>first|(go_simp;done)|(go_simp;rfl));intro fU hg Nz cY hb;have bL:=ah.mk (aC cw hb);have bS:=ah.mk (cY);have cG:=ah.mk ((dQ:w.heap.size≤fU));have dA:=ah.mk ((dQ:w.heap.size≤fU));clear HB;have HB:=bL;have dW:=bS;have Mx:=cG;have Gy:=dA;clear bL bS cG dA;clear hb cY hg;have xX:Nz.cell? ⟨fU,0,none⟩=some (.bool false):=(af dW.out 0).trans rfl;have xY:Nz.cell? ⟨fU,1,none⟩=some (.slice gW dD.length gX):=(af dW.out 1).trans rfl;have xZ:Nz.cell? ⟨fU,2,none⟩=some (.string bp):=(af dW.out 2).trans rfl;have D6:Nz.cell? ⟨fU,3,none⟩=some (.string dY):=(af dW.out 3).trans rfl;have D7:Nz.cell? ⟨fU,4,none⟩=some (.bool bC):=(af dW.out 4).trans rfl;have ya:=aa dW.out 0;have yc:=aa dW.out 1;have yf:=aa dW.out 2;have D8:=aa dW.out 3;have D9:=aa dW.out 4)|((with_reducible refine aU (f:=63) rfl ?_);refine cB (some 25) rfl rfl Tryz.func63 av rfl #[.agg #[.string bp,.string dY,.bool bC]] rfl cX ?_;(with_reducible refine (dL.calls k bp dY bC true _ ?aW A11.out).mono ?_);(case aW=>exact aQ.below HG.out oU);rintro e Fb ⟨rfl,hb⟩;refine ⟨_,rfl,?_⟩;have bL:=ah.mk (aX (g:=fU) (o:= .cells #[.bool false,.slice gW dD.length gX,.string bp,.string dY,.bool bC] 32 (0,0)) H7 hb);have bS:=ah.mk (aC oU hb);clear dW;clear HB;have dW:=bL;have HB:=bS;clear bL bS;(try clear hb);(try clear hb2);(try clear hk);(try clear hi);have Ej:Fb.cell? ⟨fU,0,none⟩=some (.bool false):=(af dW.out 0).trans rfl;have Ek:Fb.cell? ⟨fU,1,none⟩=some (.slice gW dD.length gX):=(af dW.out 1).trans rfl;have El:Fb.cell? ⟨fU,2,none⟩=some (.string bp):=(af dW.out 2).trans rfl;have RJ:Fb.cell? ⟨fU,3,none⟩=some (.string dY):=(af dW.out 3).trans rfl;have RL:Fb.cell? ⟨fU,4,none⟩=some (.bool bC):=(af dW.out 4).trans rfl;have Em:=aa dW.out 0;have En:=aa dW.out 1;have Eo:=aa dW.out 2;have RM:=aa dW.out 3;have RN:=aa dW.out 4))
     try any_goals (exact (c8e.mp (by assumption)).elim)
     go_ret
     exact ⟨cO,oU⟩
   ·replace c12:=Bool.eq_false_iff.mpr c12
    subst c12
    have H1:(some false)=some r:=by rw [if_neg (show ¬ (false=true) by decide)] at H;exact H
    clear H
    have H:=H1
    clear H1
    obtain rfl:=Option.some.inj H
    go_enter Tryz.func20,Tryz.ntmps20
    go_wp2_with (first|((with_reducible refine cQ (N:=1) rfl ?_);(try (refine dS (by rfl) ?_;dsimp only));refine cE ?hg (N:=1) ?hd (cs:=#[.bool false,.slice gW dD.length gX,.string bp,.string dY,.bool bC]) (t:=32) ?hr ?_;(case hd=>rfl);(case hg=>rfl);(case hr=>first|(go_simp;done)|(go_simp;rfl));intro fU hg KN cY hb;have bL:=ah.mk (aC cw hb);have bS:=ah.mk (cY);have cG:=ah.mk ((dQ:w.heap.size≤fU));have dA:=ah.mk ((dQ:w.heap.size≤fU));clear HB;have HB:=bL;have dW:=bS;have Mx:=cG;have Gy:=dA;clear bL bS cG dA;clear hb cY hg;have td:KN.cell? ⟨fU,0,none⟩=some (.bool false):=(af dW.out 0).trans rfl;have tj:KN.cell? ⟨fU,1,none⟩=some (.slice gW dD.length gX):=(af dW.out 1).trans rfl;have tq:KN.cell? ⟨fU,2,none⟩=some (.string bp):=(af dW.out 2).trans rfl;have yw:KN.cell? ⟨fU,3,none⟩=some (.string dY):=(af dW.out 3).trans rfl;have yx:KN.cell? ⟨fU,4,none⟩=some (.bool bC):=(af dW.out 4).trans rfl;have tu:=aa dW.out 0;have tv:=aa dW.out 1;have tA:=aa dW.out 2;have yz:=aa dW.out 3;have yA:=aa dW.out 4)|((with_reducible refine aU (f:=63) rfl ?_);refine cB (some 25) rfl rfl Tryz.func63 av rfl #[.agg #[.string bp,.string dY,.bool bC]] rfl cX ?_;(with_reducible refine (dL.calls k bp dY bC false _ ?aW A11.out).mono ?_);(case aW=>exact aQ.below HG.out oU);rintro e zO ⟨rfl,hb⟩;refine ⟨_,rfl,?_⟩;have bL:=ah.mk (aX (g:=fU) (o:= .cells #[.bool false,.slice gW dD.length gX,.string bp,.string dY,.bool bC] 32 (0,0)) H7 hb);have bS:=ah.mk (aC oU hb);clear dW;clear HB;have dW:=bL;have HB:=bS;clear bL bS;(try clear hb);(try clear hb2);(try clear hk);(try clear hi)))
    try any_goals (exact (c8e.mp (by assumption)).elim)
    go_ret
    exact ⟨cO,oU⟩
end Go.Proofs.YtokpnfljjjjikaaGreatDoor.nK
