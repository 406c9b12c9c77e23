import Derived.Test.YtbjjaaodfbjkfaaGreatDoorQQux15
set_option maxHeartbeats 8000000
set_option maxRecDepth 100000
namespace Go.Proofs.YtbjjaaodfbjkfaaGreatDoor.mU
open Go.RowKit Go.Proofs.YtbjjaaodfbjkfaaGreatDoor.yN Go.Proofs.ak.bR Go.Proofs.ak.dz Go.Proofs.ak.cZ
attribute [local go_sem] iR iT jW jX gW gX jh ji
set_option linter.unusedVariables false
set_option linter.unusedSimpArgs false
attribute [local go_sem high] Oc
def bO.l0:Nat→List Int→List Int→Int→Int→Option (Bool)
 | 0,_,_,_,_ =>none
 |k + 1,x0,x1,ym,pG=>if pG < ym then (if 0≤pG then (if pG < (x0.length:Int) then (if pG < (x1.length:Int) then (if (rd x0 pG)=(rd x1 pG) then (bO.l0 k x0 x1 ym (wrap64 (pG + 1))) else (some false)) else (none)) else (none)) else (none)) else (some true)
def bO.f (k:Nat) (l0:List Int) (l1:List Int):Option (Bool):=if (l0.length:Int)=(l1.length:Int) then (bO.l0 k l0 l1 (l0.length:Int) 0) else (some false)
theorem bO.ey:∀ k,(∀ y0 y1 y2 y3,eZ (bO.l0 k y0 y1 y2 y3) (bO.l0 (k + 1) y0 y1 y2 y3))
 | 0=>fun _ _ _ _ r h=>by simp [bO.l0] at h
 |k + 1=>by
  have mH:=bO.ey k
  ·intro y0 y1 y2 y3
   unfold bO.l0
   repeat' (with_reducible first|exact mH _ _ _ _|exact eZ.refl _|refine eZ.ite ?_ ?_)
theorem bO.mono:∀ a0 a1 k,eZ (bO.f k a0 a1) (bO.f (k + 1) a0 a1):=by
 intro a0 a1 k
 have mH:=bO.ey k
 unfold bO.f
 repeat' (with_reducible first|exact mH _ _ _ _|exact eZ.refl _|refine eZ.ite ?_ ?_)
theorem bO.calls (k:Nat) (A0:Option Addr) (c0:Nat) (l0:List Int) (A1:Option Addr) (c1:Nat) (l1:List Int) (r:Bool) (w:World) (nK:Kd.C (Kd.int .u8) w A0 l0.length l0) (hc0:l0.length≤c0) (hr1:Kd.C (Kd.int .u8) w A1 l1.length l1) (hc1:l1.length≤c1) (h:bO.f k l0 l1=some r):
 Calls Tryz.prog 116 #[.slice A0 l0.length c0,.slice A1 l1.length c1] w fun e w'=>e= .returned (.bool r)∧iy w w':=by
 have q9:=ah.mk nK
 have Fy:=ah.mk hc0
 clear nK hc0
 have FH:=ah.mk hr1
 have HC1:=ah.mk hc1
 clear hr1 hc1
 have H:(if (l0.length:Int)=(l1.length:Int) then (bO.l0 k l0 l1 (l0.length:Int) 0) else (some false))=some r:=h
 clear h
 by_cases c3:(l0.length:Int)=(l1.length:Int)
 ·rw [if_pos c3] at H
  have ny:=beq_iff_eq.mpr c3
  have xX:=bne_eq_false_iff_eq.mpr c3
  have RB:(l0.length == l1.length)=true:=by (simp at c3 ⊢;omega)
  clear c3
  have H':=ah.mk H
  clear H
  go_enter Tryz.func116,Tryz.ntmps116
  go_wp2
  repeat (go_quiet (fail);skip)
  go_loopg [13] k (fun kq v13 w'=>∃ (bz:Int),v13= .int .i64 bz∧ah (bO.l0 kq l0 l1 (l0.length:Int) bz=some r)∧ah (kq≤k)∧iy w w')
  case atStart=>exact ⟨(0),(by rfl),H',⟨Nat.le_refl _⟩,mB⟩
  case round=>
   clear H'
   obtain ⟨bz,rfl,HA,qi,⟨m1,rfl⟩⟩:=hrel
   cases gk with
   |zero=>exact absurd HA.out (by simp [bO.l0])
   |succ k1=>
    have H:=HA.out
    clear HA
    simp only [bO.l0] at H
    by_cases c4:bz < (l0.length:Int)
    ·rw [if_pos c4] at H
     have mQ:=decide_eq_true c4
     clear c4
     obtain ⟨c5,H⟩:=lO H
     have p8:=decide_eq_true c5
     clear c5
     obtain ⟨c6,H⟩:=lO H
     have zH:=decide_eq_true c6
     clear c6
     obtain ⟨c7,H⟩:=lO H
     have E3:=decide_eq_true c7
     clear c7
     by_cases c8:(rd l0 bz)=(rd l1 bz)
     ·rw [if_pos c8] at H
      have Ax:=beq_iff_eq.mpr c8
      have Mo:=bne_eq_false_iff_eq.mpr c8
      clear c8
      have H':=ah.mk H
      clear H
      have Nj: 0≤(bz:Int):=of_decide_eq_true cj
      have Nk:bz < (l0.length:Int):=of_decide_eq_true cj
      obtain ⟨akT,e287,aay⟩:=Kd.uk q9.out bz Nj Nk
      cases e287
      replace Nj:=eq_true Nj
      replace Nk:=eq_true Nk
      have Nl: 0≤(bz:Int):=of_decide_eq_true cj
      have Nn:bz < (l1.length:Int):=of_decide_eq_true cj
      obtain ⟨akU,aer,aaz⟩:=Kd.uk FH.out bz Nl Nn
      cases aer
      replace Nl:=eq_true Nl
      replace Nn:=eq_true Nn
      go_wp2
      repeat (go_quiet (fail);try go_wp2)
      go_roundg k1
      case measure=>have:=qi.out;omega
      case rel=>exact ⟨(wrap64 (bz + 1)),(by rfl),H',⟨lu⟩,kQ⟩
     ·rw [if_neg c8] at H
      have Ax:=beq_eq_false_iff_ne.mpr c8
      have Mo:=bne_iff_ne.mpr c8
      obtain rfl:=Option.some.inj H
      have Nj: 0≤(bz:Int):=of_decide_eq_true cj
      have Nk:bz < (l0.length:Int):=of_decide_eq_true cj
      obtain ⟨akT,e287,aay⟩:=Kd.uk q9.out bz Nj Nk
      cases e287
      replace Nj:=eq_true Nj
      replace Nk:=eq_true Nk
      have Nl: 0≤(bz:Int):=of_decide_eq_true cj
      have Nn:bz < (l1.length:Int):=of_decide_eq_true cj
      obtain ⟨akU,aer,aaz⟩:=Kd.uk FH.out bz Nl Nn
      cases aer
      replace Nl:=eq_true Nl
      replace Nn:=eq_true Nn
      go_wp2
      repeat (go_quiet (fail);try go_wp2)
      go_ret
      exact ⟨by rfl,kQ⟩
    ·rw [if_neg c4] at H
     have mQ:=decide_eq_false c4
     clear c4
     obtain rfl:=Option.some.inj H
     go_wp2
     repeat (go_quiet (fail);skip)
     go_ret
     exact ⟨by rfl,kQ⟩
 ·rw [if_neg c3] at H
  have ny:=beq_eq_false_iff_ne.mpr c3
  have xX:=bne_iff_ne.mpr c3
  have RB:(l0.length == l1.length)=false:=by (simp at c3 ⊢;omega)
  obtain rfl:=Option.some.inj H
  go_enter Tryz.func116,Tryz.ntmps116
  go_wp2
  repeat (go_quiet (fail);skip)
  go_ret
  exact ⟨by rfl,mB⟩
def gp.f (k:Nat) (bg:Int) (bP:Bool) (cH:List ByteArray) (bD:ByteArray) (bI:ByteArray) (bU:Bool) (bL:List (jM)) (cN:List Int) (bW:Int) (gz:Int) (gF:Bool) (kU:List ByteArray) (iX:ByteArray) (iN:ByteArray) (iO:Bool) (iK:List (jM)) (lK:List Int) (jN:Int):Option (Bool):=if bg=gz then (if bW=jN then (if (bP == gF)=true then (if (bD.toList == iX.toList && (bI.toList == iN.toList && (bU == iO)))=true then ((bu.f k cH kU).bind fun t291=>(if t291=true then ((bk.f k bL iK).bind fun t292=>(if t292=true then ((bO.f k cN lK).bind fun t293=>(some t293)) else (some false))) else (some false))) else (some false)) else (some false)) else (some false)) else (some false)
theorem gp.mono:∀ a0 a1 a2 a3 a4 a5 a6 a7 a8 a9 UI UJ a12 a13 a14 a15 a16 a17 k,eZ (gp.f k a0 a1 a2 a3 a4 a5 a6 a7 a8 a9 UI UJ a12 a13 a14 a15 a16 a17) (gp.f (k + 1) a0 a1 a2 a3 a4 a5 a6 a7 a8 a9 UI UJ a12 a13 a14 a15 a16 a17):=by
 intro a0 a1 a2 a3 a4 a5 a6 a7 a8 a9 UI UJ a12 a13 a14 a15 a16 a17 k
 unfold gp.f
 repeat' (with_reducible first|exact bk.mono _ _ _|exact bO.mono _ _ _|exact bu.mono _ _ _|exact eZ.refl _|refine eZ.ite ?_ ?_|refine eZ.bind ?_ (fun _ =>?_))
theorem gp.calls (k:Nat) (bg:Int) (bP:Bool) (dS:Option Addr) (dU:Nat) (cH:List ByteArray) (bD:ByteArray) (bI:ByteArray) (bU:Bool) (cV:Option Addr) (cU:Nat) (bL:List (jM)) (dV:Option Addr) (dW:Nat) (cN:List Int) (bW:Int) (gz:Int) (gF:Bool) (og:Option Addr) (om:Nat) (kU:List ByteArray) (iX:ByteArray) (iN:ByteArray) (iO:Bool) (lU:Option Addr) (lV:Nat) (iK:List (jM)) (oo:Option Addr) (oq:Nat) (lK:List Int) (jN:Int) (r:Bool) (w:World) (qy:Kd.C Kd.string w dS cH.length cH) (qz:cH.length≤dU) (mN:Kd.C sM w cV bL.length bL) (mY:bL.length≤cU) (qA:Kd.C (Kd.int .u8) w dV cN.length cN) (qB:cN.length≤dW) (K4:Kd.C Kd.string w og kU.length kU) (K5:kU.length≤om) (zN:Kd.C sM w lU iK.length iK) (zO:iK.length≤lV) (K6:Kd.C (Kd.int .u8) w oo lK.length lK) (K7:lK.length≤oq) (h:gp.f k bg bP cH bD bI bU bL cN bW gz gF kU iX iN iO iK lK jN=some r):
 Calls Tryz.prog 70 #[.agg #[.int .i64 bg,.bool bP,.slice dS cH.length dU,.string bD,.string bI,.bool bU,.slice cV bL.length cU,.slice dV cN.length dW,.int .i64 bW],.agg #[.int .i64 gz,.bool gF,.slice og kU.length om,.string iX,.string iN,.bool iO,.slice lU iK.length lV,.slice oo lK.length oq,.int .i64 jN]] w fun e w'=>e= .returned (.bool r)∧Below w.heap.size w w':=by
 have BW:=Tryz.underlying34
 have KD:=Tryz.underlying29
 have mO:=ah.mk qy
 have mP:=ah.mk qz
 clear qy qz
 have lQ:=ah.mk mN
 have mF:=ah.mk mY
 clear mN mY
 have vY:=ah.mk qA
 have vZ:=ah.mk qB
 clear qA qB
 have PD:=ah.mk K4
 have PE:=ah.mk K5
 clear K4 K5
 have UD:=ah.mk zN
 have UE:=ah.mk zO
 clear zN zO
 have abE:=ah.mk K6
 have abF:=ah.mk K7
 clear K6 K7
 have HB:=ah.mk (Below.refl w.heap.size w)
 have H:(if bg=gz then (if bW=jN then (if (bP == gF)=true then (if (bD.toList == iX.toList && (bI.toList == iN.toList && (bU == iO)))=true then ((bu.f k cH kU).bind fun t291=>(if t291=true then ((bk.f k bL iK).bind fun t292=>(if t292=true then ((bO.f k cN lK).bind fun t293=>(some t293)) else (some false))) else (some false))) else (some false)) else (some false)) else (some false)) else (some false))=some r:=h
 clear h
 by_cases c3:bg=gz
 ·rw [if_pos c3] at H
  have ny:=beq_iff_eq.mpr c3
  have xX:=bne_eq_false_iff_eq.mpr c3
  clear c3
  by_cases c4:bW=jN
  ·rw [if_pos c4] at H
   have mQ:=beq_iff_eq.mpr c4
   have AE:=bne_eq_false_iff_eq.mpr c4
   clear c4
   by_cases c5:(bP == gF)=true
   ·rw [if_pos c5] at H
    have p8:(bP == gF)=true:=c5
    (try (have Mr:decide (bP=gF)=true:=by simpa using c5))
    (try (have aza:(bP == gF)=true:=by simpa using c5))
    clear c5
    by_cases c6:(bD.toList == iX.toList && (bI.toList == iN.toList && (bU == iO)))=true
    ·rw [if_pos c6] at H
     have zH:(bD.toList == iX.toList && (bI.toList == iN.toList && (bU == iO)))=true:=c6
     (try (have TL:decide (bD.toList=iX.toList && (bI.toList == iN.toList && (bU == iO)))=true:=by simpa using c6))
     (try (have azb:(bD.toList == iX.toList && (bI.toList == iN.toList && (bU == iO)))=true:=by simpa using c6))
     clear c6
     obtain ⟨t291,A7,H⟩:=bd_ H
     by_cases c8:t291=true
     ·subst c8
      rw [if_pos rfl] at H
      obtain ⟨t292,A9,H⟩:=bd_ H
      by_cases c10:t292=true
      ·subst c10
       rw [if_pos rfl] at H
       obtain ⟨t293,KC,H⟩:=bd_ H
       obtain rfl:=Option.some.inj H
       go_enter Tryz.func70,Tryz.ntmps70
       go_wp2_with (first|((with_reducible refine bp (N:=2) rfl ?_);refine br ?hg (N:=2) ?hd (cs:=#[.int .i64 bg,.bool bP,.slice dS cH.length dU,.string bD,.string bI,.bool bU,.slice cV bL.length cU,.slice dV cN.length dW,.int .i64 bW]) (t:=34) ?hr ?_;(case hd=>rfl);(case hg=>rfl);(case hr=>(go_simp;done));intro dn hg D3 bG hb;have cg:=ah.mk (bG);have FY:=ah.mk ((bF:w.heap.size≤dn));have FZ:=ah.mk ((bF:w.heap.size≤dn));replace HB:=ah.mk (ay aJ hb);clear hb bG hg)|((with_reducible refine bp (N:=3) rfl ?_);refine br ?hg (N:=3) ?hd (cs:=#[.int .i64 gz,.bool gF,.slice og kU.length om,.string iX,.string iN,.bool iO,.slice lU iK.length lV,.slice oo lK.length oq,.int .i64 jN]) (t:=34) ?hr ?_;(case hd=>rfl);(case hg=>rfl);(case hr=>(go_simp;done));intro dw hg kI bG hb;have cA:=ah.mk (bG);have F3:=ah.mk ((bF:w.heap.size≤dw));have F4:=ah.mk ((bF:w.heap.size≤dw));replace HB:=ah.mk (ay aJ hb);have kf:=ah.mk ((yC:dn≠dw));have kg:=ah.mk ((yD:dw≠dn));replace cg:=ah.mk (aA yF hb);clear hb bG hg;have abP:=kf.out;have abQ:=kg.out;have Jm:kI.cell? ⟨dn,0,none⟩=some (.int .i64 bg):=(af cg.out 0).trans rfl;have Jn:kI.cell? ⟨dn,1,none⟩=some (.bool bP):=(af cg.out 1).trans rfl;have PY:kI.cell? ⟨dn,2,none⟩=some (.slice dS cH.length dU):=(af cg.out 2).trans rfl;have PZ:kI.cell? ⟨dn,3,none⟩=some (.string bD):=(af cg.out 3).trans rfl;have P4:kI.cell? ⟨dn,4,none⟩=some (.string bI):=(af cg.out 4).trans rfl;have P5:kI.cell? ⟨dn,5,none⟩=some (.bool bU):=(af cg.out 5).trans rfl;have P6:kI.cell? ⟨dn,6,none⟩=some (.slice cV bL.length cU):=(af cg.out 6).trans rfl;have P7:kI.cell? ⟨dn,7,none⟩=some (.slice dV cN.length dW):=(af cg.out 7).trans rfl;have P8:kI.cell? ⟨dn,8,none⟩=some (.int .i64 bW):=(af cg.out 8).trans rfl;have Jo:=aa cg.out 0;have Jp:=aa cg.out 1;have P9:=aa cg.out 2;have Qa:=aa cg.out 3;have Qb:=aa cg.out 4;have Qc:=aa cg.out 5;have Qd:=aa cg.out 6;have Qe:=aa cg.out 7;have Qf:=aa cg.out 8;have xz:kI.cell? ⟨dw,0,none⟩=some (.int .i64 gz):=(af cA.out 0).trans rfl;have xA:kI.cell? ⟨dw,1,none⟩=some (.bool gF):=(af cA.out 1).trans rfl;have xB:kI.cell? ⟨dw,2,none⟩=some (.slice og kU.length om):=(af cA.out 2).trans rfl;have xC:kI.cell? ⟨dw,3,none⟩=some (.string iX):=(af cA.out 3).trans rfl;have xD:kI.cell? ⟨dw,4,none⟩=some (.string iN):=(af cA.out 4).trans rfl;have zB:kI.cell? ⟨dw,5,none⟩=some (.bool iO):=(af cA.out 5).trans rfl;have CV:kI.cell? ⟨dw,6,none⟩=some (.slice lU iK.length lV):=(af cA.out 6).trans rfl;have CX:kI.cell? ⟨dw,7,none⟩=some (.slice oo lK.length oq):=(af cA.out 7).trans rfl;have CY:kI.cell? ⟨dw,8,none⟩=some (.int .i64 jN):=(af cA.out 8).trans rfl;have xE:=aa cA.out 0;have xG:=aa cA.out 1;have xH:=aa cA.out 2;have xI:=aa cA.out 3;have xJ:=aa cA.out 4;have zC:=aa cA.out 5;have CZ:=aa cA.out 6;have C0:=aa cA.out 7;have C2:=aa cA.out 8)|(go_at_call 114;(with_reducible refine (bu.calls k _ _ cH _ _ kU true _ ?bn ?bN ?cW ?fD A7.out).mono ?_);(case bn=>repeat (exact (Kd.bQ mO.out HB.out)));(case bN=>exact mP.out);(case cW=>repeat (exact (Kd.bQ PD.out HB.out)));(case fD=>exact PE.out);rintro e w' ⟨rfl,⟨nd,rfl⟩⟩)|(go_at_call 115;(with_reducible refine (bk.calls k _ _ bL _ _ iK true _ ?bn ?bN ?cW ?fD A9.out).mono ?_);(case bn=>repeat (exact (Kd.bQ lQ.out dZ)));(case bN=>exact mF.out);(case cW=>repeat (exact (Kd.bQ UD.out dZ)));(case fD=>exact UE.out);rintro e w' ⟨rfl,⟨nd,rfl⟩⟩)|(go_at_call 116;(with_reducible refine (bO.calls k _ _ cN _ _ lK t293 _ ?bn ?bN ?cW ?fD KC.out).mono ?_);(case bn=>repeat (exact (Kd.bQ vY.out dZ)));(case bN=>exact vZ.out);(case cW=>repeat (exact (Kd.bQ abE.out dZ)));(case fD=>exact abF.out);rintro e w' ⟨rfl,⟨nd,rfl⟩⟩))
       go_ret
       exact ⟨by rfl,dZ⟩
      ·replace c10:=Bool.eq_false_iff.mpr c10
       subst c10
       rw [if_neg (show ¬ (false=true) by decide)] at H
       obtain rfl:=Option.some.inj H
       go_enter Tryz.func70,Tryz.ntmps70
       go_wp2_with (first|((with_reducible refine bp (N:=2) rfl ?_);refine br ?hg (N:=2) ?hd (cs:=#[.int .i64 bg,.bool bP,.slice dS cH.length dU,.string bD,.string bI,.bool bU,.slice cV bL.length cU,.slice dV cN.length dW,.int .i64 bW]) (t:=34) ?hr ?_;(case hd=>rfl);(case hg=>rfl);(case hr=>(go_simp;done));intro dn hg sN bG hb;have cg:=ah.mk (bG);have FY:=ah.mk ((bF:w.heap.size≤dn));have FZ:=ah.mk ((bF:w.heap.size≤dn));replace HB:=ah.mk (ay aJ hb);clear hb bG hg)|((with_reducible refine bp (N:=3) rfl ?_);refine br ?hg (N:=3) ?hd (cs:=#[.int .i64 gz,.bool gF,.slice og kU.length om,.string iX,.string iN,.bool iO,.slice lU iK.length lV,.slice oo lK.length oq,.int .i64 jN]) (t:=34) ?hr ?_;(case hd=>rfl);(case hg=>rfl);(case hr=>(go_simp;done));intro dw hg za bG hb;have cA:=ah.mk (bG);have F3:=ah.mk ((bF:w.heap.size≤dw));have F4:=ah.mk ((bF:w.heap.size≤dw));replace HB:=ah.mk (ay aJ hb);have kf:=ah.mk ((yC:dn≠dw));have kg:=ah.mk ((yD:dw≠dn));replace cg:=ah.mk (aA yF hb);clear hb bG hg;have abx:=kf.out;have aby:=kg.out;have Da:za.cell? ⟨dn,0,none⟩=some (.int .i64 bg):=(af cg.out 0).trans rfl;have Db:za.cell? ⟨dn,1,none⟩=some (.bool bP):=(af cg.out 1).trans rfl;have Dc:za.cell? ⟨dn,2,none⟩=some (.slice dS cH.length dU):=(af cg.out 2).trans rfl;have I8:za.cell? ⟨dn,3,none⟩=some (.string bD):=(af cg.out 3).trans rfl;have I9:za.cell? ⟨dn,4,none⟩=some (.string bI):=(af cg.out 4).trans rfl;have Ja:za.cell? ⟨dn,5,none⟩=some (.bool bU):=(af cg.out 5).trans rfl;have Pr:za.cell? ⟨dn,6,none⟩=some (.slice cV bL.length cU):=(af cg.out 6).trans rfl;have Pv:za.cell? ⟨dn,7,none⟩=some (.slice dV cN.length dW):=(af cg.out 7).trans rfl;have Pw:za.cell? ⟨dn,8,none⟩=some (.int .i64 bW):=(af cg.out 8).trans rfl;have Dd:=aa cg.out 0;have De:=aa cg.out 1;have Df:=aa cg.out 2;have Jb:=aa cg.out 3;have Jc:=aa cg.out 4;have Jd:=aa cg.out 5;have Px:=aa cg.out 6;have Py:=aa cg.out 7;have Pz:=aa cg.out 8;have Wz:za.cell? ⟨dw,0,none⟩=some (.int .i64 gz):=(af cA.out 0).trans rfl;have WA:za.cell? ⟨dw,1,none⟩=some (.bool gF):=(af cA.out 1).trans rfl;have WB:za.cell? ⟨dw,2,none⟩=some (.slice og kU.length om):=(af cA.out 2).trans rfl;have WC:za.cell? ⟨dw,3,none⟩=some (.string iX):=(af cA.out 3).trans rfl;have WD:za.cell? ⟨dw,4,none⟩=some (.string iN):=(af cA.out 4).trans rfl;have auu:za.cell? ⟨dw,5,none⟩=some (.bool iO):=(af cA.out 5).trans rfl;have auv:za.cell? ⟨dw,6,none⟩=some (.slice lU iK.length lV):=(af cA.out 6).trans rfl;have auw:za.cell? ⟨dw,7,none⟩=some (.slice oo lK.length oq):=(af cA.out 7).trans rfl;have auy:za.cell? ⟨dw,8,none⟩=some (.int .i64 jN):=(af cA.out 8).trans rfl;have WE:=aa cA.out 0;have WG:=aa cA.out 1;have WH:=aa cA.out 2;have WI:=aa cA.out 3;have WJ:=aa cA.out 4;have auz:=aa cA.out 5;have auA:=aa cA.out 6;have auB:=aa cA.out 7;have auC:=aa cA.out 8)|(go_at_call 114;(with_reducible refine (bu.calls k _ _ cH _ _ kU true _ ?bn ?bN ?cW ?fD A7.out).mono ?_);(case bn=>repeat (exact (Kd.bQ mO.out HB.out)));(case bN=>exact mP.out);(case cW=>repeat (exact (Kd.bQ PD.out HB.out)));(case fD=>exact PE.out);rintro e w' ⟨rfl,⟨nd,rfl⟩⟩)|(go_at_call 115;(with_reducible refine (bk.calls k _ _ bL _ _ iK false _ ?bn ?bN ?cW ?fD A9.out).mono ?_);(case bn=>repeat (exact (Kd.bQ lQ.out dZ)));(case bN=>exact mF.out);(case cW=>repeat (exact (Kd.bQ UD.out dZ)));(case fD=>exact UE.out);rintro e w' ⟨rfl,⟨nd,rfl⟩⟩))
       go_ret
       exact ⟨by rfl,dZ⟩
     ·replace c8:=Bool.eq_false_iff.mpr c8
      subst c8
      rw [if_neg (show ¬ (false=true) by decide)] at H
      obtain rfl:=Option.some.inj H
      go_enter Tryz.func70,Tryz.ntmps70
      go_wp2_with (first|((with_reducible refine bp (N:=2) rfl ?_);refine br ?hg (N:=2) ?hd (cs:=#[.int .i64 bg,.bool bP,.slice dS cH.length dU,.string bD,.string bI,.bool bU,.slice cV bL.length cU,.slice dV cN.length dW,.int .i64 bW]) (t:=34) ?hr ?_;(case hd=>rfl);(case hg=>rfl);(case hr=>(go_simp;done));intro dn hg Vs bG hb;have cg:=ah.mk (bG);have FY:=ah.mk ((bF:w.heap.size≤dn));have FZ:=ah.mk ((bF:w.heap.size≤dn));replace HB:=ah.mk (ay aJ hb);clear hb bG hg)|((with_reducible refine bp (N:=3) rfl ?_);refine br ?hg (N:=3) ?hd (cs:=#[.int .i64 gz,.bool gF,.slice og kU.length om,.string iX,.string iN,.bool iO,.slice lU iK.length lV,.slice oo lK.length oq,.int .i64 jN]) (t:=34) ?hr ?_;(case hd=>rfl);(case hg=>rfl);(case hr=>(go_simp;done));intro dw hg sP bG hb;have cA:=ah.mk (bG);have F3:=ah.mk ((bF:w.heap.size≤dw));have F4:=ah.mk ((bF:w.heap.size≤dw));replace HB:=ah.mk (ay aJ hb);have kf:=ah.mk ((yC:dn≠dw));have kg:=ah.mk ((yD:dw≠dn));replace cg:=ah.mk (aA yF hb);clear hb bG hg;have akj:=kf.out;have akk:=kg.out;have Dg:sP.cell? ⟨dn,0,none⟩=some (.int .i64 bg):=(af cg.out 0).trans rfl;have Dh:sP.cell? ⟨dn,1,none⟩=some (.bool bP):=(af cg.out 1).trans rfl;have Di:sP.cell? ⟨dn,2,none⟩=some (.slice dS cH.length dU):=(af cg.out 2).trans rfl;have Hq:sP.cell? ⟨dn,3,none⟩=some (.string bD):=(af cg.out 3).trans rfl;have Hr:sP.cell? ⟨dn,4,none⟩=some (.string bI):=(af cg.out 4).trans rfl;have Qg:sP.cell? ⟨dn,5,none⟩=some (.bool bU):=(af cg.out 5).trans rfl;have Qh:sP.cell? ⟨dn,6,none⟩=some (.slice cV bL.length cU):=(af cg.out 6).trans rfl;have Qi:sP.cell? ⟨dn,7,none⟩=some (.slice dV cN.length dW):=(af cg.out 7).trans rfl;have Qj:sP.cell? ⟨dn,8,none⟩=some (.int .i64 bW):=(af cg.out 8).trans rfl;have Dj:=aa cg.out 0;have Dk:=aa cg.out 1;have Dl:=aa cg.out 2;have Hs:=aa cg.out 3;have Ht:=aa cg.out 4;have Qk:=aa cg.out 5;have Ql:=aa cg.out 6;have Qm:=aa cg.out 7;have Qn:=aa cg.out 8;have WW:sP.cell? ⟨dw,0,none⟩=some (.int .i64 gz):=(af cA.out 0).trans rfl;have WX:sP.cell? ⟨dw,1,none⟩=some (.bool gF):=(af cA.out 1).trans rfl;have WY:sP.cell? ⟨dw,2,none⟩=some (.slice og kU.length om):=(af cA.out 2).trans rfl;have WZ:sP.cell? ⟨dw,3,none⟩=some (.string iX):=(af cA.out 3).trans rfl;have W4:sP.cell? ⟨dw,4,none⟩=some (.string iN):=(af cA.out 4).trans rfl;have W5:sP.cell? ⟨dw,5,none⟩=some (.bool iO):=(af cA.out 5).trans rfl;have W6:sP.cell? ⟨dw,6,none⟩=some (.slice lU iK.length lV):=(af cA.out 6).trans rfl;have W7:sP.cell? ⟨dw,7,none⟩=some (.slice oo lK.length oq):=(af cA.out 7).trans rfl;have W8:sP.cell? ⟨dw,8,none⟩=some (.int .i64 jN):=(af cA.out 8).trans rfl;have W9:=aa cA.out 0;have Xa:=aa cA.out 1;have Xb:=aa cA.out 2;have Xc:=aa cA.out 3;have Xd:=aa cA.out 4;have Xe:=aa cA.out 5;have Xf:=aa cA.out 6;have Xg:=aa cA.out 7;have Xh:=aa cA.out 8)|(go_at_call 114;(with_reducible refine (bu.calls k _ _ cH _ _ kU false _ ?bn ?bN ?cW ?fD A7.out).mono ?_);(case bn=>repeat (exact (Kd.bQ mO.out HB.out)));(case bN=>exact mP.out);(case cW=>repeat (exact (Kd.bQ PD.out HB.out)));(case fD=>exact PE.out);rintro e w' ⟨rfl,⟨nd,rfl⟩⟩))
      go_ret
      exact ⟨by rfl,dZ⟩
    ·rw [if_neg c6] at H
     have zH:(bD.toList == iX.toList && (bI.toList == iN.toList && (bU == iO)))=false:=by simpa using c6
     (try (have TL:decide (bD.toList=iX.toList && (bI.toList == iN.toList && (bU == iO)))=false:=by simpa using c6))
     (try (have azb:(bD.toList == iX.toList && (bI.toList == iN.toList && (bU == iO)))=false:=by simpa using c6))
     (try (have aE5: ¬ (bD.toList=iX.toList && (bI.toList == iN.toList && (bU == iO))):=by simpa using c6))
     clear c6
     obtain rfl:=Option.some.inj H
     go_enter Tryz.func70,Tryz.ntmps70
     go_wp2_with (first|((with_reducible refine bp (N:=2) rfl ?_);refine br ?hg (N:=2) ?hd (cs:=#[.int .i64 bg,.bool bP,.slice dS cH.length dU,.string bD,.string bI,.bool bU,.slice cV bL.length cU,.slice dV cN.length dW,.int .i64 bW]) (t:=34) ?hr ?_;(case hd=>rfl);(case hg=>rfl);(case hr=>(go_simp;done));intro dn hg RA bG hb;have cg:=ah.mk (bG);have FY:=ah.mk ((bF:w.heap.size≤dn));have FZ:=ah.mk ((bF:w.heap.size≤dn));replace HB:=ah.mk (ay aJ hb);clear hb bG hg)|((with_reducible refine bp (N:=3) rfl ?_);refine br ?hg (N:=3) ?hd (cs:=#[.int .i64 gz,.bool gF,.slice og kU.length om,.string iX,.string iN,.bool iO,.slice lU iK.length lV,.slice oo lK.length oq,.int .i64 jN]) (t:=34) ?hr ?_;(case hd=>rfl);(case hg=>rfl);(case hr=>(go_simp;done));intro dw hg AG bG hb;have cA:=ah.mk (bG);have F3:=ah.mk ((bF:w.heap.size≤dw));have F4:=ah.mk ((bF:w.heap.size≤dw));replace HB:=ah.mk (ay aJ hb);have kf:=ah.mk ((yC:dn≠dw));have kg:=ah.mk ((yD:dw≠dn));replace cg:=ah.mk (aA yF hb);clear hb bG hg;have abR:=kf.out;have abS:=kg.out;have aaA:AG.cell? ⟨dn,0,none⟩=some (.int .i64 bg):=(af cg.out 0).trans rfl;have aaB:AG.cell? ⟨dn,1,none⟩=some (.bool bP):=(af cg.out 1).trans rfl;have auD:AG.cell? ⟨dn,2,none⟩=some (.slice dS cH.length dU):=(af cg.out 2).trans rfl;have auE:AG.cell? ⟨dn,3,none⟩=some (.string bD):=(af cg.out 3).trans rfl;have auF:AG.cell? ⟨dn,4,none⟩=some (.string bI):=(af cg.out 4).trans rfl;have auG:AG.cell? ⟨dn,5,none⟩=some (.bool bU):=(af cg.out 5).trans rfl;have auH:AG.cell? ⟨dn,6,none⟩=some (.slice cV bL.length cU):=(af cg.out 6).trans rfl;have auI:AG.cell? ⟨dn,7,none⟩=some (.slice dV cN.length dW):=(af cg.out 7).trans rfl;have auJ:AG.cell? ⟨dn,8,none⟩=some (.int .i64 bW):=(af cg.out 8).trans rfl;have aaC:=aa cg.out 0;have aaD:=aa cg.out 1;have auK:=aa cg.out 2;have auL:=aa cg.out 3;have auM:=aa cg.out 4;have auN:=aa cg.out 5;have auO:=aa cg.out 6;have auP:=aa cg.out 7;have auQ:=aa cg.out 8;have Qz:AG.cell? ⟨dw,0,none⟩=some (.int .i64 gz):=(af cA.out 0).trans rfl;have QA:AG.cell? ⟨dw,1,none⟩=some (.bool gF):=(af cA.out 1).trans rfl;have QB:AG.cell? ⟨dw,2,none⟩=some (.slice og kU.length om):=(af cA.out 2).trans rfl;have QC:AG.cell? ⟨dw,3,none⟩=some (.string iX):=(af cA.out 3).trans rfl;have QD:AG.cell? ⟨dw,4,none⟩=some (.string iN):=(af cA.out 4).trans rfl;have QE:AG.cell? ⟨dw,5,none⟩=some (.bool iO):=(af cA.out 5).trans rfl;have ZU:AG.cell? ⟨dw,6,none⟩=some (.slice lU iK.length lV):=(af cA.out 6).trans rfl;have ZV:AG.cell? ⟨dw,7,none⟩=some (.slice oo lK.length oq):=(af cA.out 7).trans rfl;have ZW:AG.cell? ⟨dw,8,none⟩=some (.int .i64 jN):=(af cA.out 8).trans rfl;have QF:=aa cA.out 0;have QG:=aa cA.out 1;have QH:=aa cA.out 2;have QI:=aa cA.out 3;have QJ:=aa cA.out 4;have QK:=aa cA.out 5;have ZX:=aa cA.out 6;have ZY:=aa cA.out 7;have ZZ:=aa cA.out 8))
     go_ret
     exact ⟨by rfl,aJ⟩
   ·rw [if_neg c5] at H
    have p8:(bP == gF)=false:=by simpa using c5
    (try (have Mr:decide (bP=gF)=false:=by simpa using c5))
    (try (have aza:(bP == gF)=false:=by simpa using c5))
    (try (have aE6: ¬ (bP=gF):=by simpa using c5))
    clear c5
    obtain rfl:=Option.some.inj H
    go_enter Tryz.func70,Tryz.ntmps70
    go_wp2_with (first|((with_reducible refine bp (N:=2) rfl ?_);refine br ?hg (N:=2) ?hd (cs:=#[.int .i64 bg,.bool bP,.slice dS cH.length dU,.string bD,.string bI,.bool bU,.slice cV bL.length cU,.slice dV cN.length dW,.int .i64 bW]) (t:=34) ?hr ?_;(case hd=>rfl);(case hg=>rfl);(case hr=>(go_simp;done));intro dn hg xL bG hb;have cg:=ah.mk (bG);have FY:=ah.mk ((bF:w.heap.size≤dn));have FZ:=ah.mk ((bF:w.heap.size≤dn));replace HB:=ah.mk (ay aJ hb);clear hb bG hg)|((with_reducible refine bp (N:=3) rfl ?_);refine br ?hg (N:=3) ?hd (cs:=#[.int .i64 gz,.bool gF,.slice og kU.length om,.string iX,.string iN,.bool iO,.slice lU iK.length lV,.slice oo lK.length oq,.int .i64 jN]) (t:=34) ?hr ?_;(case hd=>rfl);(case hg=>rfl);(case hr=>(go_simp;done));intro dw hg Kn bG hb;have cA:=ah.mk (bG);have F3:=ah.mk ((bF:w.heap.size≤dw));have F4:=ah.mk ((bF:w.heap.size≤dw));replace HB:=ah.mk (ay aJ hb);have kf:=ah.mk ((yC:dn≠dw));have kg:=ah.mk ((yD:dw≠dn));replace cg:=ah.mk (aA yF hb);clear hb bG hg;have aB1:=kf.out;have aB2:=kg.out;have Ws:Kn.cell? ⟨dn,0,none⟩=some (.int .i64 bg):=(af cg.out 0).trans rfl;have Wt:Kn.cell? ⟨dn,1,none⟩=some (.bool bP):=(af cg.out 1).trans rfl;have Wu:Kn.cell? ⟨dn,2,none⟩=some (.slice dS cH.length dU):=(af cg.out 2).trans rfl;have auR:Kn.cell? ⟨dn,3,none⟩=some (.string bD):=(af cg.out 3).trans rfl;have auS:Kn.cell? ⟨dn,4,none⟩=some (.string bI):=(af cg.out 4).trans rfl;have auT:Kn.cell? ⟨dn,5,none⟩=some (.bool bU):=(af cg.out 5).trans rfl;have auU:Kn.cell? ⟨dn,6,none⟩=some (.slice cV bL.length cU):=(af cg.out 6).trans rfl;have auV:Kn.cell? ⟨dn,7,none⟩=some (.slice dV cN.length dW):=(af cg.out 7).trans rfl;have auW:Kn.cell? ⟨dn,8,none⟩=some (.int .i64 bW):=(af cg.out 8).trans rfl;have Wv:=aa cg.out 0;have Ww:=aa cg.out 1;have Wx:=aa cg.out 2;have auX:=aa cg.out 3;have auY:=aa cg.out 4;have auZ:=aa cg.out 5;have au0:=aa cg.out 6;have au1:=aa cg.out 7;have au2:=aa cg.out 8;have Z0:Kn.cell? ⟨dw,0,none⟩=some (.int .i64 gz):=(af cA.out 0).trans rfl;have Z1:Kn.cell? ⟨dw,1,none⟩=some (.bool gF):=(af cA.out 1).trans rfl;have Z2:Kn.cell? ⟨dw,2,none⟩=some (.slice og kU.length om):=(af cA.out 2).trans rfl;have Z3:Kn.cell? ⟨dw,3,none⟩=some (.string iX):=(af cA.out 3).trans rfl;have Z4:Kn.cell? ⟨dw,4,none⟩=some (.string iN):=(af cA.out 4).trans rfl;have Z5:Kn.cell? ⟨dw,5,none⟩=some (.bool iO):=(af cA.out 5).trans rfl;have Z6:Kn.cell? ⟨dw,6,none⟩=some (.slice lU iK.length lV):=(af cA.out 6).trans rfl;have Z7:Kn.cell? ⟨dw,7,none⟩=some (.slice oo lK.length oq):=(af cA.out 7).trans rfl;have Z8:Kn.cell? ⟨dw,8,none⟩=some (.int .i64 jN):=(af cA.out 8).trans rfl;have Z9:=aa cA.out 0;have aaa:=aa cA.out 1;have aab:=aa cA.out 2;have aac:=aa cA.out 3;have aad:=aa cA.out 4;have aae:=aa cA.out 5;have aaf:=aa cA.out 6;have aag:=aa cA.out 7;have aah:=aa cA.out 8))
    go_ret
    exact ⟨by rfl,aJ⟩
  ·rw [if_neg c4] at H
   have mQ:=beq_eq_false_iff_ne.mpr c4
   have AE:=bne_iff_ne.mpr c4
   obtain rfl:=Option.some.inj H
   go_enter Tryz.func70,Tryz.ntmps70
   go_wp2_with (first|((with_reducible refine bp (N:=2) rfl ?_);refine br ?hg (N:=2) ?hd (cs:=#[.int .i64 bg,.bool bP,.slice dS cH.length dU,.string bD,.string bI,.bool bU,.slice cV bL.length cU,.slice dV cN.length dW,.int .i64 bW]) (t:=34) ?hr ?_;(case hd=>rfl);(case hg=>rfl);(case hr=>(go_simp;done));intro dn hg w37 bG hb;have cg:=ah.mk (bG);have FY:=ah.mk ((bF:w.heap.size≤dn));have FZ:=ah.mk ((bF:w.heap.size≤dn));replace HB:=ah.mk (ay aJ hb);clear hb bG hg)|((with_reducible refine bp (N:=3) rfl ?_);refine br ?hg (N:=3) ?hd (cs:=#[.int .i64 gz,.bool gF,.slice og kU.length om,.string iX,.string iN,.bool iO,.slice lU iK.length lV,.slice oo lK.length oq,.int .i64 jN]) (t:=34) ?hr ?_;(case hd=>rfl);(case hg=>rfl);(case hr=>(go_simp;done));intro dw hg sQ bG hb;have cA:=ah.mk (bG);have F3:=ah.mk ((bF:w.heap.size≤dw));have F4:=ah.mk ((bF:w.heap.size≤dw));replace HB:=ah.mk (ay aJ hb);have kf:=ah.mk ((yC:dn≠dw));have kg:=ah.mk ((yD:dw≠dn));replace cg:=ah.mk (aA yF hb);clear hb bG hg;have aB3:=kf.out;have aB4:=kg.out;have au3:sQ.cell? ⟨dn,0,none⟩=some (.int .i64 bg):=(af cg.out 0).trans rfl;have au4:sQ.cell? ⟨dn,1,none⟩=some (.bool bP):=(af cg.out 1).trans rfl;have au5:sQ.cell? ⟨dn,2,none⟩=some (.slice dS cH.length dU):=(af cg.out 2).trans rfl;have au6:sQ.cell? ⟨dn,3,none⟩=some (.string bD):=(af cg.out 3).trans rfl;have au7:sQ.cell? ⟨dn,4,none⟩=some (.string bI):=(af cg.out 4).trans rfl;have au8:sQ.cell? ⟨dn,5,none⟩=some (.bool bU):=(af cg.out 5).trans rfl;have au9:sQ.cell? ⟨dn,6,none⟩=some (.slice cV bL.length cU):=(af cg.out 6).trans rfl;have ava:sQ.cell? ⟨dn,7,none⟩=some (.slice dV cN.length dW):=(af cg.out 7).trans rfl;have avb:sQ.cell? ⟨dn,8,none⟩=some (.int .i64 bW):=(af cg.out 8).trans rfl;have avc:=aa cg.out 0;have avd:=aa cg.out 1;have ave:=aa cg.out 2;have avf:=aa cg.out 3;have avg:=aa cg.out 4;have avh:=aa cg.out 5;have avi:=aa cg.out 6;have avj:=aa cg.out 7;have avk:=aa cg.out 8;have aaE:sQ.cell? ⟨dw,0,none⟩=some (.int .i64 gz):=(af cA.out 0).trans rfl;have aaF:sQ.cell? ⟨dw,1,none⟩=some (.bool gF):=(af cA.out 1).trans rfl;have avl:sQ.cell? ⟨dw,2,none⟩=some (.slice og kU.length om):=(af cA.out 2).trans rfl;have avm:sQ.cell? ⟨dw,3,none⟩=some (.string iX):=(af cA.out 3).trans rfl;have avn:sQ.cell? ⟨dw,4,none⟩=some (.string iN):=(af cA.out 4).trans rfl;have avo:sQ.cell? ⟨dw,5,none⟩=some (.bool iO):=(af cA.out 5).trans rfl;have avp:sQ.cell? ⟨dw,6,none⟩=some (.slice lU iK.length lV):=(af cA.out 6).trans rfl;have avq:sQ.cell? ⟨dw,7,none⟩=some (.slice oo lK.length oq):=(af cA.out 7).trans rfl;have avr:sQ.cell? ⟨dw,8,none⟩=some (.int .i64 jN):=(af cA.out 8).trans rfl;have aaG:=aa cA.out 0;have aaH:=aa cA.out 1;have avs:=aa cA.out 2;have avt:=aa cA.out 3;have avu:=aa cA.out 4;have avv:=aa cA.out 5;have avw:=aa cA.out 6;have avx:=aa cA.out 7;have avy:=aa cA.out 8))
   go_ret
   exact ⟨by rfl,aJ⟩
 ·rw [if_neg c3] at H
  have ny:=beq_eq_false_iff_ne.mpr c3
  have xX:=bne_iff_ne.mpr c3
  obtain rfl:=Option.some.inj H
  go_enter Tryz.func70,Tryz.ntmps70
  go_wp2_with (first|((with_reducible refine bp (N:=2) rfl ?_);refine br ?hg (N:=2) ?hd (cs:=#[.int .i64 bg,.bool bP,.slice dS cH.length dU,.string bD,.string bI,.bool bU,.slice cV bL.length cU,.slice dV cN.length dW,.int .i64 bW]) (t:=34) ?hr ?_;(case hd=>rfl);(case hg=>rfl);(case hr=>(go_simp;done));intro dn hg w42 bG hb;have cg:=ah.mk (bG);have FY:=ah.mk ((bF:w.heap.size≤dn));have FZ:=ah.mk ((bF:w.heap.size≤dn));replace HB:=ah.mk (ay aJ hb);clear hb bG hg)|((with_reducible refine bp (N:=3) rfl ?_);refine br ?hg (N:=3) ?hd (cs:=#[.int .i64 gz,.bool gF,.slice og kU.length om,.string iX,.string iN,.bool iO,.slice lU iK.length lV,.slice oo lK.length oq,.int .i64 jN]) (t:=34) ?hr ?_;(case hd=>rfl);(case hg=>rfl);(case hr=>(go_simp;done));intro dw hg rA bG hb;have cA:=ah.mk (bG);have F3:=ah.mk ((bF:w.heap.size≤dw));have F4:=ah.mk ((bF:w.heap.size≤dw));replace HB:=ah.mk (ay aJ hb);have kf:=ah.mk ((yC:dn≠dw));have kg:=ah.mk ((yD:dw≠dn));replace cg:=ah.mk (aA yF hb);clear hb bG hg;have aB5:=kf.out;have aB6:=kg.out;have avz:rA.cell? ⟨dn,0,none⟩=some (.int .i64 bg):=(af cg.out 0).trans rfl;have avA:rA.cell? ⟨dn,1,none⟩=some (.bool bP):=(af cg.out 1).trans rfl;have avB:rA.cell? ⟨dn,2,none⟩=some (.slice dS cH.length dU):=(af cg.out 2).trans rfl;have avC:rA.cell? ⟨dn,3,none⟩=some (.string bD):=(af cg.out 3).trans rfl;have avD:rA.cell? ⟨dn,4,none⟩=some (.string bI):=(af cg.out 4).trans rfl;have avE:rA.cell? ⟨dn,5,none⟩=some (.bool bU):=(af cg.out 5).trans rfl;have avF:rA.cell? ⟨dn,6,none⟩=some (.slice cV bL.length cU):=(af cg.out 6).trans rfl;have avG:rA.cell? ⟨dn,7,none⟩=some (.slice dV cN.length dW):=(af cg.out 7).trans rfl;have avH:rA.cell? ⟨dn,8,none⟩=some (.int .i64 bW):=(af cg.out 8).trans rfl;have avI:=aa cg.out 0;have avJ:=aa cg.out 1;have avK:=aa cg.out 2;have avL:=aa cg.out 3;have avM:=aa cg.out 4;have avN:=aa cg.out 5;have avO:=aa cg.out 6;have avP:=aa cg.out 7;have avQ:=aa cg.out 8;have OU:rA.cell? ⟨dw,0,none⟩=some (.int .i64 gz):=(af cA.out 0).trans rfl;have OV:rA.cell? ⟨dw,1,none⟩=some (.bool gF):=(af cA.out 1).trans rfl;have OX:rA.cell? ⟨dw,2,none⟩=some (.slice og kU.length om):=(af cA.out 2).trans rfl;have OY:rA.cell? ⟨dw,3,none⟩=some (.string iX):=(af cA.out 3).trans rfl;have OZ:rA.cell? ⟨dw,4,none⟩=some (.string iN):=(af cA.out 4).trans rfl;have O0:rA.cell? ⟨dw,5,none⟩=some (.bool iO):=(af cA.out 5).trans rfl;have O1:rA.cell? ⟨dw,6,none⟩=some (.slice lU iK.length lV):=(af cA.out 6).trans rfl;have O2:rA.cell? ⟨dw,7,none⟩=some (.slice oo lK.length oq):=(af cA.out 7).trans rfl;have O3:rA.cell? ⟨dw,8,none⟩=some (.int .i64 jN):=(af cA.out 8).trans rfl;have O4:=aa cA.out 0;have O5:=aa cA.out 1;have O6:=aa cA.out 2;have O7:=aa cA.out 3;have O8:=aa cA.out 4;have O9:=aa cA.out 5;have Pb:=aa cA.out 6;have Pc:=aa cA.out 7;have Pd:=aa cA.out 8))
  go_ret
  exact ⟨by rfl,aJ⟩
def au.l0:Nat→List (pE)→List (pE)→Int→Int→Option (Bool)
 | 0,_,_,_,_ =>none
 |k + 1,x1,Vd,x16,EF=>if EF < x16 then (if 0≤EF then (if EF < (Vd.length:Int) then (if EF < (x1.length:Int) then ((gp.f k ((aj Vd EF).f0) ((aj Vd EF).f1.f0) ((aj Vd EF).f1.f1) ((aj Vd EF).f1.f2.f0) ((aj Vd EF).f1.f2.f1) ((aj Vd EF).f1.f2.f2) ((aj Vd EF).f2) ((aj Vd EF).f3) ((aj Vd EF).f4) ((aj x1 EF).f0) ((aj x1 EF).f1.f0) ((aj x1 EF).f1.f1) ((aj x1 EF).f1.f2.f0) ((aj x1 EF).f1.f2.f1) ((aj x1 EF).f1.f2.f2) ((aj x1 EF).f2) ((aj x1 EF).f3) ((aj x1 EF).f4)).bind fun t298=>(if t298=true then (au.l0 k x1 Vd x16 (wrap64 (EF + 1))) else (some false))) else (none)) else (none)) else (none)) else (some true)
def au.f (k:Nat) (l0:List (pE)) (l1:List (pE)):Option (Bool):=if (l0.length:Int)=(l1.length:Int) then (au.l0 k l1 l0 (l0.length:Int) 0) else (some false)
theorem au.ey:∀ k,(∀ y0 y1 y2 y3,eZ (au.l0 k y0 y1 y2 y3) (au.l0 (k + 1) y0 y1 y2 y3))
 | 0=>fun _ _ _ _ r h=>by simp [au.l0] at h
 |k + 1=>by
  have mH:=au.ey k
  ·intro y0 y1 y2 y3
   unfold au.l0
   repeat' (with_reducible first|exact mH _ _ _ _|exact gp.mono _ _ _ _ _ _ _ _ _ _ _ _ _ _ _ _ _ _ _|exact eZ.refl _|refine eZ.ite ?_ ?_|refine eZ.bind ?_ (fun _ =>?_))
theorem au.mono:∀ a0 a1 k,eZ (au.f k a0 a1) (au.f (k + 1) a0 a1):=by
 intro a0 a1 k
 have mH:=au.ey k
 unfold au.f
 repeat' (with_reducible first|exact mH _ _ _ _|exact eZ.refl _|refine eZ.ite ?_ ?_)
theorem au.calls (k:Nat) (A0:Option Addr) (c0:Nat) (l0:List (pE)) (A1:Option Addr) (c1:Nat) (l1:List (pE)) (r:Bool) (w:World) (nK:Kd.C Fw w A0 l0.length l0) (hc0:l0.length≤c0) (hr1:Kd.C Fw w A1 l1.length l1) (hc1:l1.length≤c1) (h:au.f k l0 l1=some r):
 Calls Tryz.prog 69 #[.slice A0 l0.length c0,.slice A1 l1.length c1,.func (.func 70) #[] #[]] w fun e w'=>e= .returned (.bool r)∧Below w.heap.size w w':=by
 have BW:=Tryz.underlying34
 have q9:=ah.mk nK
 have Fy:=ah.mk hc0
 clear nK hc0
 have FH:=ah.mk hr1
 have HC1:=ah.mk hc1
 clear hr1 hc1
 have HB:=ah.mk (Below.refl w.heap.size w)
 have H:(if (l0.length:Int)=(l1.length:Int) then (au.l0 k l1 l0 (l0.length:Int) 0) else (some false))=some r:=h
 clear h
 by_cases c4:(l0.length:Int)=(l1.length:Int)
 ·rw [if_pos c4] at H
  have mQ:=beq_iff_eq.mpr c4
  have AE:=bne_eq_false_iff_eq.mpr c4
  have azc:(l0.length == l1.length)=true:=by (simp at c4 ⊢;omega)
  clear c4
  have H':=ah.mk H
  clear H
  go_enter Tryz.func69,Tryz.ntmps69
  go_wp2
  go_loopg [17] k (fun kq v17 w'=>∃ (aG:Int),v17= .int .i64 aG∧ah (au.l0 kq l1 l0 (l0.length:Int) aG=some r)∧ah (kq≤k)∧ah (Below w.heap.size w w'))
  case atStart=>exact ⟨(0),(by rfl),H',⟨Nat.le_refl _⟩,⟨aJ⟩⟩
  case round=>
   clear H'
   obtain ⟨aG,rfl,HA,qi,HB⟩:=hrel
   cases gk with
   |zero=>exact absurd HA.out (by simp [au.l0])
   |succ k1=>
    have H:=HA.out
    clear HA
    simp only [au.l0] at H
    by_cases c5:aG < (l0.length:Int)
    ·rw [if_pos c5] at H
     have p8:=decide_eq_true c5
     clear c5
     obtain ⟨c6,H⟩:=lO H
     have zH:=decide_eq_true c6
     clear c6
     obtain ⟨c7,H⟩:=lO H
     have E3:=decide_eq_true c7
     clear c7
     obtain ⟨c8,H⟩:=lO H
     have Ax:=decide_eq_true c8
     clear c8
     obtain ⟨t298,A9,H⟩:=bd_ H
     by_cases c10:t298=true
     ·subst c10
      rw [if_pos rfl] at H
      have H':=ah.mk H
      clear H
      have Np: 0≤(aG:Int):=of_decide_eq_true cj
      have Nq:aG < (l0.length:Int):=of_decide_eq_true cj
      obtain ⟨akV,fJ,fK,gT,gU,iI,iJ,aes,vo,vp,vq,vr,vv,vw,vA,vB,vC,zY,zZ,z6,z7,z8,Aa⟩:=qw q9.out aG Np Nq
      cases aes
      replace vo:=(HB.out.cell (World.block_lt_of_cell? w _ vo)).trans vo
      replace vp:=(HB.out.cell (World.block_lt_of_cell? w _ vp)).trans vp
      replace vq:=(HB.out.cell (World.block_lt_of_cell? w _ vq)).trans vq
      replace vr:=(HB.out.cell (World.block_lt_of_cell? w _ vr)).trans vr
      replace vv:=(HB.out.cell (World.block_lt_of_cell? w _ vv)).trans vv
      replace vw:=(HB.out.cell (World.block_lt_of_cell? w _ vw)).trans vw
      replace vA:=(HB.out.cell (World.block_lt_of_cell? w _ vA)).trans vA
      replace vB:=(HB.out.cell (World.block_lt_of_cell? w _ vB)).trans vB
      replace vC:=(HB.out.cell (World.block_lt_of_cell? w _ vC)).trans vC
      have JH:=ah.mk zZ
      have JI:=ah.mk zY
      clear zZ zY
      have JJ:=ah.mk z7
      have JK:=ah.mk z6
      clear z7 z6
      have JL:=ah.mk Aa
      have JM:=ah.mk z8
      clear Aa z8
      replace Np:=eq_true Np
      replace Nq:=eq_true Nq
      go_wp2_with (first|((with_reducible refine bp (N:=8) rfl ?_);refine br ?hg (N:=8) ?hd (cs:=#[.int .i64 0,.bool false,.slice none 0 0,.string (⟨#[]⟩:ByteArray),.string (⟨#[]⟩:ByteArray),.bool false,.slice none 0 0,.slice none 0 0,.int .i64 0]) (t:=34) ?hr ?_;(case hd=>rfl);(case hg=>rfl);(case hr=>(go_simp;done));intro bB hg xq bG hb;have dN:=ah.mk (bG);have oK:=ah.mk ((bF:w.heap.size≤bB));have SN:=ah.mk ((bF:w.heap.size≤bB));replace HB:=ah.mk (ay aJ hb);clear hb bG hg;have xu:xq.cell? ⟨bB,0,none⟩=some (.int .i64 0):=(af dN.out 0).trans rfl;have xw:xq.cell? ⟨bB,1,none⟩=some (.bool false):=(af dN.out 1).trans rfl;have zu:xq.cell? ⟨bB,2,none⟩=some (.slice none 0 0):=(af dN.out 2).trans rfl;have CB:xq.cell? ⟨bB,3,none⟩=some (.string (⟨#[]⟩:ByteArray)):=(af dN.out 3).trans rfl;have CC:xq.cell? ⟨bB,4,none⟩=some (.string (⟨#[]⟩:ByteArray)):=(af dN.out 4).trans rfl;have CD:xq.cell? ⟨bB,5,none⟩=some (.bool false):=(af dN.out 5).trans rfl;have CE:xq.cell? ⟨bB,6,none⟩=some (.slice none 0 0):=(af dN.out 6).trans rfl;have CF:xq.cell? ⟨bB,7,none⟩=some (.slice none 0 0):=(af dN.out 7).trans rfl;have CG:xq.cell? ⟨bB,8,none⟩=some (.int .i64 0):=(af dN.out 8).trans rfl;have xx:=aa dN.out 0;have xy:=aa dN.out 1;have zw:=aa dN.out 2;have CH:=aa dN.out 3;have CI:=aa dN.out 4;have CJ:=aa dN.out 5;have CK:=aa dN.out 6;have CL:=aa dN.out 7;have CM:=aa dN.out 8;have Nr: 0≤(aG:Int):=of_decide_eq_true cj;have Ns:aG < (l1.length:Int):=of_decide_eq_true cj;obtain ⟨oL,tT,tU,Du,Dv,Gc,Gd,aet,ez,eF,eG,eH,eI,eJ,eK,eN,eO,Ab,Ac,Ad,Ae,Af,Ag⟩:=qw FH.out aG Nr Ns;cases aet;have BZ:oL.block≠bB:=Nat.ne_of_lt (Nat.lt_of_lt_of_le l5 oK.out);have B0:oL.block≠bB:=Nat.ne_of_lt (Nat.lt_of_lt_of_le l5 oK.out);have Ca:oL.block≠bB:=Nat.ne_of_lt (Nat.lt_of_lt_of_le l5 oK.out);have Cb:oL.block≠bB:=Nat.ne_of_lt (Nat.lt_of_lt_of_le l5 oK.out);have Cc:oL.block≠bB:=Nat.ne_of_lt (Nat.lt_of_lt_of_le l5 oK.out);have Ce:oL.block≠bB:=Nat.ne_of_lt (Nat.lt_of_lt_of_le l5 oK.out);have Cf:oL.block≠bB:=Nat.ne_of_lt (Nat.lt_of_lt_of_le l5 oK.out);have Cg:oL.block≠bB:=Nat.ne_of_lt (Nat.lt_of_lt_of_le l5 oK.out);have Ci:oL.block≠bB:=Nat.ne_of_lt (Nat.lt_of_lt_of_le l5 oK.out);replace ez:=(HB.out.cell (World.block_lt_of_cell? w _ ez)).trans ez;replace eF:=(HB.out.cell (World.block_lt_of_cell? w _ eF)).trans eF;replace eG:=(HB.out.cell (World.block_lt_of_cell? w _ eG)).trans eG;replace eH:=(HB.out.cell (World.block_lt_of_cell? w _ eH)).trans eH;replace eI:=(HB.out.cell (World.block_lt_of_cell? w _ eI)).trans eI;replace eJ:=(HB.out.cell (World.block_lt_of_cell? w _ eJ)).trans eJ;replace eK:=(HB.out.cell (World.block_lt_of_cell? w _ eK)).trans eK;replace eN:=(HB.out.cell (World.block_lt_of_cell? w _ eN)).trans eN;replace eO:=(HB.out.cell (World.block_lt_of_cell? w _ eO)).trans eO;have JN:=ah.mk Ac;have JO:=ah.mk Ab;clear Ac Ab;have JP:=ah.mk Ae;have JQ:=ah.mk Ad;clear Ae Ad;have JR:=ah.mk Ag;have JS:=ah.mk Af;clear Ag Af;replace ez:=(cell_far (p:=⟨bB,0,none⟩) l8 (.int .i64 ((aj l0 aG).f0))).trans ez;replace eF:=(cell_far (p:=⟨bB,0,none⟩) l8 (.int .i64 ((aj l0 aG).f0))).trans eF;replace eG:=(cell_far (p:=⟨bB,0,none⟩) l8 (.int .i64 ((aj l0 aG).f0))).trans eG;replace eH:=(cell_far (p:=⟨bB,0,none⟩) l8 (.int .i64 ((aj l0 aG).f0))).trans eH;replace eI:=(cell_far (p:=⟨bB,0,none⟩) l8 (.int .i64 ((aj l0 aG).f0))).trans eI;replace eJ:=(cell_far (p:=⟨bB,0,none⟩) l8 (.int .i64 ((aj l0 aG).f0))).trans eJ;replace eK:=(cell_far (p:=⟨bB,0,none⟩) l8 (.int .i64 ((aj l0 aG).f0))).trans eK;replace eN:=(cell_far (p:=⟨bB,0,none⟩) l8 (.int .i64 ((aj l0 aG).f0))).trans eN;replace eO:=(cell_far (p:=⟨bB,0,none⟩) l8 (.int .i64 ((aj l0 aG).f0))).trans eO;replace ez:=(cell_far (p:=⟨bB,1,none⟩) l9 (.bool ((aj l0 aG).f1.f0))).trans ez;replace eF:=(cell_far (p:=⟨bB,1,none⟩) l9 (.bool ((aj l0 aG).f1.f0))).trans eF;replace eG:=(cell_far (p:=⟨bB,1,none⟩) l9 (.bool ((aj l0 aG).f1.f0))).trans eG;replace eH:=(cell_far (p:=⟨bB,1,none⟩) l9 (.bool ((aj l0 aG).f1.f0))).trans eH;replace eI:=(cell_far (p:=⟨bB,1,none⟩) l9 (.bool ((aj l0 aG).f1.f0))).trans eI;replace eJ:=(cell_far (p:=⟨bB,1,none⟩) l9 (.bool ((aj l0 aG).f1.f0))).trans eJ;replace eK:=(cell_far (p:=⟨bB,1,none⟩) l9 (.bool ((aj l0 aG).f1.f0))).trans eK;replace eN:=(cell_far (p:=⟨bB,1,none⟩) l9 (.bool ((aj l0 aG).f1.f0))).trans eN;replace eO:=(cell_far (p:=⟨bB,1,none⟩) l9 (.bool ((aj l0 aG).f1.f0))).trans eO;replace ez:=(cell_far (p:=⟨bB,2,none⟩) mg (.slice fJ ((aj l0 aG).f1.f1).length fK)).trans ez;replace eF:=(cell_far (p:=⟨bB,2,none⟩) mg (.slice fJ ((aj l0 aG).f1.f1).length fK)).trans eF;replace eG:=(cell_far (p:=⟨bB,2,none⟩) mg (.slice fJ ((aj l0 aG).f1.f1).length fK)).trans eG;replace eH:=(cell_far (p:=⟨bB,2,none⟩) mg (.slice fJ ((aj l0 aG).f1.f1).length fK)).trans eH;replace eI:=(cell_far (p:=⟨bB,2,none⟩) mg (.slice fJ ((aj l0 aG).f1.f1).length fK)).trans eI;replace eJ:=(cell_far (p:=⟨bB,2,none⟩) mg (.slice fJ ((aj l0 aG).f1.f1).length fK)).trans eJ;replace eK:=(cell_far (p:=⟨bB,2,none⟩) mg (.slice fJ ((aj l0 aG).f1.f1).length fK)).trans eK;replace eN:=(cell_far (p:=⟨bB,2,none⟩) mg (.slice fJ ((aj l0 aG).f1.f1).length fK)).trans eN;replace eO:=(cell_far (p:=⟨bB,2,none⟩) mg (.slice fJ ((aj l0 aG).f1.f1).length fK)).trans eO;replace ez:=(cell_far (p:=⟨bB,3,none⟩) mh (.string ((aj l0 aG).f1.f2.f0))).trans ez;replace eF:=(cell_far (p:=⟨bB,3,none⟩) mh (.string ((aj l0 aG).f1.f2.f0))).trans eF;replace eG:=(cell_far (p:=⟨bB,3,none⟩) mh (.string ((aj l0 aG).f1.f2.f0))).trans eG;replace eH:=(cell_far (p:=⟨bB,3,none⟩) mh (.string ((aj l0 aG).f1.f2.f0))).trans eH;replace eI:=(cell_far (p:=⟨bB,3,none⟩) mh (.string ((aj l0 aG).f1.f2.f0))).trans eI;replace eJ:=(cell_far (p:=⟨bB,3,none⟩) mh (.string ((aj l0 aG).f1.f2.f0))).trans eJ;replace eK:=(cell_far (p:=⟨bB,3,none⟩) mh (.string ((aj l0 aG).f1.f2.f0))).trans eK;replace eN:=(cell_far (p:=⟨bB,3,none⟩) mh (.string ((aj l0 aG).f1.f2.f0))).trans eN;replace eO:=(cell_far (p:=⟨bB,3,none⟩) mh (.string ((aj l0 aG).f1.f2.f0))).trans eO;replace ez:=(cell_far (p:=⟨bB,4,none⟩) mj (.string ((aj l0 aG).f1.f2.f1))).trans ez;replace eF:=(cell_far (p:=⟨bB,4,none⟩) mj (.string ((aj l0 aG).f1.f2.f1))).trans eF;replace eG:=(cell_far (p:=⟨bB,4,none⟩) mj (.string ((aj l0 aG).f1.f2.f1))).trans eG;replace eH:=(cell_far (p:=⟨bB,4,none⟩) mj (.string ((aj l0 aG).f1.f2.f1))).trans eH;replace eI:=(cell_far (p:=⟨bB,4,none⟩) mj (.string ((aj l0 aG).f1.f2.f1))).trans eI;replace eJ:=(cell_far (p:=⟨bB,4,none⟩) mj (.string ((aj l0 aG).f1.f2.f1))).trans eJ;replace eK:=(cell_far (p:=⟨bB,4,none⟩) mj (.string ((aj l0 aG).f1.f2.f1))).trans eK;replace eN:=(cell_far (p:=⟨bB,4,none⟩) mj (.string ((aj l0 aG).f1.f2.f1))).trans eN;replace eO:=(cell_far (p:=⟨bB,4,none⟩) mj (.string ((aj l0 aG).f1.f2.f1))).trans eO;replace ez:=(cell_far (p:=⟨bB,5,none⟩) mo (.bool ((aj l0 aG).f1.f2.f2))).trans ez;replace eF:=(cell_far (p:=⟨bB,5,none⟩) mo (.bool ((aj l0 aG).f1.f2.f2))).trans eF;replace eG:=(cell_far (p:=⟨bB,5,none⟩) mo (.bool ((aj l0 aG).f1.f2.f2))).trans eG;replace eH:=(cell_far (p:=⟨bB,5,none⟩) mo (.bool ((aj l0 aG).f1.f2.f2))).trans eH;replace eI:=(cell_far (p:=⟨bB,5,none⟩) mo (.bool ((aj l0 aG).f1.f2.f2))).trans eI;replace eJ:=(cell_far (p:=⟨bB,5,none⟩) mo (.bool ((aj l0 aG).f1.f2.f2))).trans eJ;replace eK:=(cell_far (p:=⟨bB,5,none⟩) mo (.bool ((aj l0 aG).f1.f2.f2))).trans eK;replace eN:=(cell_far (p:=⟨bB,5,none⟩) mo (.bool ((aj l0 aG).f1.f2.f2))).trans eN;replace eO:=(cell_far (p:=⟨bB,5,none⟩) mo (.bool ((aj l0 aG).f1.f2.f2))).trans eO;replace ez:=(cell_far (p:=⟨bB,6,none⟩) mq (.slice gT ((aj l0 aG).f2).length gU)).trans ez;replace eF:=(cell_far (p:=⟨bB,6,none⟩) mq (.slice gT ((aj l0 aG).f2).length gU)).trans eF;replace eG:=(cell_far (p:=⟨bB,6,none⟩) mq (.slice gT ((aj l0 aG).f2).length gU)).trans eG;replace eH:=(cell_far (p:=⟨bB,6,none⟩) mq (.slice gT ((aj l0 aG).f2).length gU)).trans eH;replace eI:=(cell_far (p:=⟨bB,6,none⟩) mq (.slice gT ((aj l0 aG).f2).length gU)).trans eI;replace eJ:=(cell_far (p:=⟨bB,6,none⟩) mq (.slice gT ((aj l0 aG).f2).length gU)).trans eJ;replace eK:=(cell_far (p:=⟨bB,6,none⟩) mq (.slice gT ((aj l0 aG).f2).length gU)).trans eK;replace eN:=(cell_far (p:=⟨bB,6,none⟩) mq (.slice gT ((aj l0 aG).f2).length gU)).trans eN;replace eO:=(cell_far (p:=⟨bB,6,none⟩) mq (.slice gT ((aj l0 aG).f2).length gU)).trans eO;replace ez:=(cell_far (p:=⟨bB,7,none⟩) mz (.slice iI ((aj l0 aG).f3).length iJ)).trans ez;replace eF:=(cell_far (p:=⟨bB,7,none⟩) mz (.slice iI ((aj l0 aG).f3).length iJ)).trans eF;replace eG:=(cell_far (p:=⟨bB,7,none⟩) mz (.slice iI ((aj l0 aG).f3).length iJ)).trans eG;replace eH:=(cell_far (p:=⟨bB,7,none⟩) mz (.slice iI ((aj l0 aG).f3).length iJ)).trans eH;replace eI:=(cell_far (p:=⟨bB,7,none⟩) mz (.slice iI ((aj l0 aG).f3).length iJ)).trans eI;replace eJ:=(cell_far (p:=⟨bB,7,none⟩) mz (.slice iI ((aj l0 aG).f3).length iJ)).trans eJ;replace eK:=(cell_far (p:=⟨bB,7,none⟩) mz (.slice iI ((aj l0 aG).f3).length iJ)).trans eK;replace eN:=(cell_far (p:=⟨bB,7,none⟩) mz (.slice iI ((aj l0 aG).f3).length iJ)).trans eN;replace eO:=(cell_far (p:=⟨bB,7,none⟩) mz (.slice iI ((aj l0 aG).f3).length iJ)).trans eO;replace ez:=(cell_far (p:=⟨bB,8,none⟩) mA (.int .i64 ((aj l0 aG).f4))).trans ez;replace eF:=(cell_far (p:=⟨bB,8,none⟩) mA (.int .i64 ((aj l0 aG).f4))).trans eF;replace eG:=(cell_far (p:=⟨bB,8,none⟩) mA (.int .i64 ((aj l0 aG).f4))).trans eG;replace eH:=(cell_far (p:=⟨bB,8,none⟩) mA (.int .i64 ((aj l0 aG).f4))).trans eH;replace eI:=(cell_far (p:=⟨bB,8,none⟩) mA (.int .i64 ((aj l0 aG).f4))).trans eI;replace eJ:=(cell_far (p:=⟨bB,8,none⟩) mA (.int .i64 ((aj l0 aG).f4))).trans eJ;replace eK:=(cell_far (p:=⟨bB,8,none⟩) mA (.int .i64 ((aj l0 aG).f4))).trans eK;replace eN:=(cell_far (p:=⟨bB,8,none⟩) mA (.int .i64 ((aj l0 aG).f4))).trans eN;replace eO:=(cell_far (p:=⟨bB,8,none⟩) mA (.int .i64 ((aj l0 aG).f4))).trans eO;clear BZ;clear B0;clear Ca;clear Cb;clear Cc;clear Ce;clear Cf;clear Cg;clear Ci;replace Nr:=eq_true Nr;replace Ns:=eq_true Ns)|((with_reducible refine bp (N:=9) rfl ?_);refine br ?hg (N:=9) ?hd (cs:=#[.int .i64 0,.bool false,.slice none 0 0,.string (⟨#[]⟩:ByteArray),.string (⟨#[]⟩:ByteArray),.bool false,.slice none 0 0,.slice none 0 0,.int .i64 0]) (t:=34) ?hr ?_;(case hd=>rfl);(case hg=>rfl);(case hr=>(go_simp;done));intro kO hg kI bG hb;have iL:=ah.mk (bG);have akW:=ah.mk ((Ge:w.heap.size≤kO));have aa6:=ah.mk ((Ge:w.heap.size≤kO));replace HB:=ah.mk (ay SM hb);have kK:=ah.mk ((aa4:bB≠kO));have Bd:=ah.mk ((aa5:kO≠bB));replace dN:=ah.mk (aA (g:=bB) (o:= .cells #[.int .i64 ((aj l0 aG).f0),.bool ((aj l0 aG).f1.f0),.slice fJ ((aj l0 aG).f1.f1).length fK,.string ((aj l0 aG).f1.f2.f0),.string ((aj l0 aG).f1.f2.f1),.bool ((aj l0 aG).f1.f2.f2),.slice gT ((aj l0 aG).f2).length gU,.slice iI ((aj l0 aG).f3).length iJ,.int .i64 ((aj l0 aG).f4)] 34 (0,0)) aa3 hb);clear hb bG hg;have abP:=Bd.out;have abQ:=kK.out;have Jm:kI.cell? ⟨kO,0,none⟩=some (.int .i64 0):=(af iL.out 0).trans rfl;have Jn:kI.cell? ⟨kO,1,none⟩=some (.bool false):=(af iL.out 1).trans rfl;have PY:kI.cell? ⟨kO,2,none⟩=some (.slice none 0 0):=(af iL.out 2).trans rfl;have PZ:kI.cell? ⟨kO,3,none⟩=some (.string (⟨#[]⟩:ByteArray)):=(af iL.out 3).trans rfl;have P4:kI.cell? ⟨kO,4,none⟩=some (.string (⟨#[]⟩:ByteArray)):=(af iL.out 4).trans rfl;have P5:kI.cell? ⟨kO,5,none⟩=some (.bool false):=(af iL.out 5).trans rfl;have P6:kI.cell? ⟨kO,6,none⟩=some (.slice none 0 0):=(af iL.out 6).trans rfl;have P7:kI.cell? ⟨kO,7,none⟩=some (.slice none 0 0):=(af iL.out 7).trans rfl;have P8:kI.cell? ⟨kO,8,none⟩=some (.int .i64 0):=(af iL.out 8).trans rfl;have Jo:=aa iL.out 0;have Jp:=aa iL.out 1;have P9:=aa iL.out 2;have Qa:=aa iL.out 3;have Qb:=aa iL.out 4;have Qc:=aa iL.out 5;have Qd:=aa iL.out 6;have Qe:=aa iL.out 7;have Qf:=aa iL.out 8;have xz:kI.cell? ⟨bB,0,none⟩=some (.int .i64 ((aj l0 aG).f0)):=(af dN.out 0).trans rfl;have xA:kI.cell? ⟨bB,1,none⟩=some (.bool ((aj l0 aG).f1.f0)):=(af dN.out 1).trans rfl;have xB:kI.cell? ⟨bB,2,none⟩=some (.slice fJ ((aj l0 aG).f1.f1).length fK):=(af dN.out 2).trans rfl;have xC:kI.cell? ⟨bB,3,none⟩=some (.string ((aj l0 aG).f1.f2.f0)):=(af dN.out 3).trans rfl;have xD:kI.cell? ⟨bB,4,none⟩=some (.string ((aj l0 aG).f1.f2.f1)):=(af dN.out 4).trans rfl;have zB:kI.cell? ⟨bB,5,none⟩=some (.bool ((aj l0 aG).f1.f2.f2)):=(af dN.out 5).trans rfl;have CV:kI.cell? ⟨bB,6,none⟩=some (.slice gT ((aj l0 aG).f2).length gU):=(af dN.out 6).trans rfl;have CX:kI.cell? ⟨bB,7,none⟩=some (.slice iI ((aj l0 aG).f3).length iJ):=(af dN.out 7).trans rfl;have CY:kI.cell? ⟨bB,8,none⟩=some (.int .i64 ((aj l0 aG).f4)):=(af dN.out 8).trans rfl;have xE:=aa dN.out 0;have xG:=aa dN.out 1;have xH:=aa dN.out 2;have xI:=aa dN.out 3;have xJ:=aa dN.out 4;have zC:=aa dN.out 5;have CZ:=aa dN.out 6;have C0:=aa dN.out 7;have C2:=aa dN.out 8)|(go_at_call 70;(with_reducible refine (gp.calls k1 ((aj l0 aG).f0) ((aj l0 aG).f1.f0) _ _ ((aj l0 aG).f1.f1) ((aj l0 aG).f1.f2.f0) ((aj l0 aG).f1.f2.f1) ((aj l0 aG).f1.f2.f2) _ _ ((aj l0 aG).f2) _ _ ((aj l0 aG).f3) ((aj l0 aG).f4) ((aj l1 aG).f0) ((aj l1 aG).f1.f0) _ _ ((aj l1 aG).f1.f1) ((aj l1 aG).f1.f2.f0) ((aj l1 aG).f1.f2.f1) ((aj l1 aG).f1.f2.f2) _ _ ((aj l1 aG).f2) _ _ ((aj l1 aG).f3) ((aj l1 aG).f4) true _ ?bn ?bN ?cW ?fD ?gK ?gL ?nC ?tI ?tJ ?Nt ?Nu ?Nv A9.out).mono ?_);(case bn=>exact Kd.bQ JH.out oz);(case bN=>exact JI.out);(case cW=>exact Kd.bQ JJ.out oz);(case fD=>exact JK.out);(case gK=>exact Kd.bQ JL.out oz);(case gL=>exact JM.out);(case nC=>exact Kd.bQ JN.out oz);(case tI=>exact JO.out);(case tJ=>exact Kd.bQ JP.out oz);(case Nt=>exact JQ.out);(case Nu=>exact Kd.bQ JR.out oz);(case Nv=>exact JS.out);rintro e sN ⟨rfl,hb⟩;replace dN:=ah.mk (aA (g:=bB) (o:= .cells #[.int .i64 ((aj l0 aG).f0),.bool ((aj l0 aG).f1.f0),.slice fJ ((aj l0 aG).f1.f1).length fK,.string ((aj l0 aG).f1.f2.f0),.string ((aj l0 aG).f1.f2.f1),.bool ((aj l0 aG).f1.f2.f2),.slice gT ((aj l0 aG).f2).length gU,.slice iI ((aj l0 aG).f3).length iJ,.int .i64 ((aj l0 aG).f4)] 34 (0,0)) SQ hb);replace iL:=ah.mk (aA (g:=kO) (o:= .cells #[.int .i64 ((aj l1 aG).f0),.bool ((aj l1 aG).f1.f0),.slice tT ((aj l1 aG).f1.f1).length tU,.string ((aj l1 aG).f1.f2.f0),.string ((aj l1 aG).f1.f2.f1),.bool ((aj l1 aG).f1.f2.f2),.slice Du ((aj l1 aG).f2).length Dv,.slice Gc ((aj l1 aG).f3).length Gd,.int .i64 ((aj l1 aG).f4)] 34 (0,0)) SJ hb);replace HB:=ah.mk (ay oz hb);(try clear hb)))
      go_roundg k1
      case measure=>have:=qi.out;omega
      case rel=>exact ⟨(wrap64 (aG + 1)),(by rfl),H',⟨lu⟩,⟨aJ⟩⟩
     ·replace c10:=Bool.eq_false_iff.mpr c10
      subst c10
      rw [if_neg (show ¬ (false=true) by decide)] at H
      obtain rfl:=Option.some.inj H
      have Np: 0≤(aG:Int):=of_decide_eq_true cj
      have Nq:aG < (l0.length:Int):=of_decide_eq_true cj
      obtain ⟨akV,fJ,fK,gT,gU,iI,iJ,aes,vo,vp,vq,vr,vv,vw,vA,vB,vC,zY,zZ,z6,z7,z8,Aa⟩:=qw q9.out aG Np Nq
      cases aes
      replace vo:=(HB.out.cell (World.block_lt_of_cell? w _ vo)).trans vo
      replace vp:=(HB.out.cell (World.block_lt_of_cell? w _ vp)).trans vp
      replace vq:=(HB.out.cell (World.block_lt_of_cell? w _ vq)).trans vq
      replace vr:=(HB.out.cell (World.block_lt_of_cell? w _ vr)).trans vr
      replace vv:=(HB.out.cell (World.block_lt_of_cell? w _ vv)).trans vv
      replace vw:=(HB.out.cell (World.block_lt_of_cell? w _ vw)).trans vw
      replace vA:=(HB.out.cell (World.block_lt_of_cell? w _ vA)).trans vA
      replace vB:=(HB.out.cell (World.block_lt_of_cell? w _ vB)).trans vB
      replace vC:=(HB.out.cell (World.block_lt_of_cell? w _ vC)).trans vC
      have JH:=ah.mk zZ
      have JI:=ah.mk zY
      clear zZ zY
      have JJ:=ah.mk z7
      have JK:=ah.mk z6
      clear z7 z6
      have JL:=ah.mk Aa
      have JM:=ah.mk z8
      clear Aa z8
      replace Np:=eq_true Np
      replace Nq:=eq_true Nq
      go_wp2_with (first|((with_reducible refine bp (N:=8) rfl ?_);refine br ?hg (N:=8) ?hd (cs:=#[.int .i64 0,.bool false,.slice none 0 0,.string (⟨#[]⟩:ByteArray),.string (⟨#[]⟩:ByteArray),.bool false,.slice none 0 0,.slice none 0 0,.int .i64 0]) (t:=34) ?hr ?_;(case hd=>rfl);(case hg=>rfl);(case hr=>(go_simp;done));intro bB hg za bG hb;have dN:=ah.mk (bG);have oK:=ah.mk ((bF:w.heap.size≤bB));have SN:=ah.mk ((bF:w.heap.size≤bB));replace HB:=ah.mk (ay aJ hb);clear hb bG hg;have Iz:za.cell? ⟨bB,0,none⟩=some (.int .i64 0):=(af dN.out 0).trans rfl;have IA:za.cell? ⟨bB,1,none⟩=some (.bool false):=(af dN.out 1).trans rfl;have IB:za.cell? ⟨bB,2,none⟩=some (.slice none 0 0):=(af dN.out 2).trans rfl;have IC:za.cell? ⟨bB,3,none⟩=some (.string (⟨#[]⟩:ByteArray)):=(af dN.out 3).trans rfl;have ID:za.cell? ⟨bB,4,none⟩=some (.string (⟨#[]⟩:ByteArray)):=(af dN.out 4).trans rfl;have IE:za.cell? ⟨bB,5,none⟩=some (.bool false):=(af dN.out 5).trans rfl;have IG:za.cell? ⟨bB,6,none⟩=some (.slice none 0 0):=(af dN.out 6).trans rfl;have II:za.cell? ⟨bB,7,none⟩=some (.slice none 0 0):=(af dN.out 7).trans rfl;have IJ:za.cell? ⟨bB,8,none⟩=some (.int .i64 0):=(af dN.out 8).trans rfl;have IK:=aa dN.out 0;have IL:=aa dN.out 1;have IM:=aa dN.out 2;have IP:=aa dN.out 3;have IQ:=aa dN.out 4;have IU:=aa dN.out 5;have IV:=aa dN.out 6;have IW:=aa dN.out 7;have IX:=aa dN.out 8;have Nr: 0≤(aG:Int):=of_decide_eq_true cj;have Ns:aG < (l1.length:Int):=of_decide_eq_true cj;obtain ⟨oL,tT,tU,Du,Dv,Gc,Gd,aet,ez,eF,eG,eH,eI,eJ,eK,eN,eO,Ab,Ac,Ad,Ae,Af,Ag⟩:=qw FH.out aG Nr Ns;cases aet;have BZ:oL.block≠bB:=Nat.ne_of_lt (Nat.lt_of_lt_of_le l5 oK.out);have B0:oL.block≠bB:=Nat.ne_of_lt (Nat.lt_of_lt_of_le l5 oK.out);have Ca:oL.block≠bB:=Nat.ne_of_lt (Nat.lt_of_lt_of_le l5 oK.out);have Cb:oL.block≠bB:=Nat.ne_of_lt (Nat.lt_of_lt_of_le l5 oK.out);have Cc:oL.block≠bB:=Nat.ne_of_lt (Nat.lt_of_lt_of_le l5 oK.out);have Ce:oL.block≠bB:=Nat.ne_of_lt (Nat.lt_of_lt_of_le l5 oK.out);have Cf:oL.block≠bB:=Nat.ne_of_lt (Nat.lt_of_lt_of_le l5 oK.out);have Cg:oL.block≠bB:=Nat.ne_of_lt (Nat.lt_of_lt_of_le l5 oK.out);have Ci:oL.block≠bB:=Nat.ne_of_lt (Nat.lt_of_lt_of_le l5 oK.out);replace ez:=(HB.out.cell (World.block_lt_of_cell? w _ ez)).trans ez;replace eF:=(HB.out.cell (World.block_lt_of_cell? w _ eF)).trans eF;replace eG:=(HB.out.cell (World.block_lt_of_cell? w _ eG)).trans eG;replace eH:=(HB.out.cell (World.block_lt_of_cell? w _ eH)).trans eH;replace eI:=(HB.out.cell (World.block_lt_of_cell? w _ eI)).trans eI;replace eJ:=(HB.out.cell (World.block_lt_of_cell? w _ eJ)).trans eJ;replace eK:=(HB.out.cell (World.block_lt_of_cell? w _ eK)).trans eK;replace eN:=(HB.out.cell (World.block_lt_of_cell? w _ eN)).trans eN;replace eO:=(HB.out.cell (World.block_lt_of_cell? w _ eO)).trans eO;have JN:=ah.mk Ac;have JO:=ah.mk Ab;clear Ac Ab;have JP:=ah.mk Ae;have JQ:=ah.mk Ad;clear Ae Ad;have JR:=ah.mk Ag;have JS:=ah.mk Af;clear Ag Af;replace ez:=(cell_far (p:=⟨bB,0,none⟩) l8 (.int .i64 ((aj l0 aG).f0))).trans ez;replace eF:=(cell_far (p:=⟨bB,0,none⟩) l8 (.int .i64 ((aj l0 aG).f0))).trans eF;replace eG:=(cell_far (p:=⟨bB,0,none⟩) l8 (.int .i64 ((aj l0 aG).f0))).trans eG;replace eH:=(cell_far (p:=⟨bB,0,none⟩) l8 (.int .i64 ((aj l0 aG).f0))).trans eH;replace eI:=(cell_far (p:=⟨bB,0,none⟩) l8 (.int .i64 ((aj l0 aG).f0))).trans eI;replace eJ:=(cell_far (p:=⟨bB,0,none⟩) l8 (.int .i64 ((aj l0 aG).f0))).trans eJ;replace eK:=(cell_far (p:=⟨bB,0,none⟩) l8 (.int .i64 ((aj l0 aG).f0))).trans eK;replace eN:=(cell_far (p:=⟨bB,0,none⟩) l8 (.int .i64 ((aj l0 aG).f0))).trans eN;replace eO:=(cell_far (p:=⟨bB,0,none⟩) l8 (.int .i64 ((aj l0 aG).f0))).trans eO;replace ez:=(cell_far (p:=⟨bB,1,none⟩) l9 (.bool ((aj l0 aG).f1.f0))).trans ez;replace eF:=(cell_far (p:=⟨bB,1,none⟩) l9 (.bool ((aj l0 aG).f1.f0))).trans eF;replace eG:=(cell_far (p:=⟨bB,1,none⟩) l9 (.bool ((aj l0 aG).f1.f0))).trans eG;replace eH:=(cell_far (p:=⟨bB,1,none⟩) l9 (.bool ((aj l0 aG).f1.f0))).trans eH;replace eI:=(cell_far (p:=⟨bB,1,none⟩) l9 (.bool ((aj l0 aG).f1.f0))).trans eI;replace eJ:=(cell_far (p:=⟨bB,1,none⟩) l9 (.bool ((aj l0 aG).f1.f0))).trans eJ;replace eK:=(cell_far (p:=⟨bB,1,none⟩) l9 (.bool ((aj l0 aG).f1.f0))).trans eK;replace eN:=(cell_far (p:=⟨bB,1,none⟩) l9 (.bool ((aj l0 aG).f1.f0))).trans eN;replace eO:=(cell_far (p:=⟨bB,1,none⟩) l9 (.bool ((aj l0 aG).f1.f0))).trans eO;replace ez:=(cell_far (p:=⟨bB,2,none⟩) mg (.slice fJ ((aj l0 aG).f1.f1).length fK)).trans ez;replace eF:=(cell_far (p:=⟨bB,2,none⟩) mg (.slice fJ ((aj l0 aG).f1.f1).length fK)).trans eF;replace eG:=(cell_far (p:=⟨bB,2,none⟩) mg (.slice fJ ((aj l0 aG).f1.f1).length fK)).trans eG;replace eH:=(cell_far (p:=⟨bB,2,none⟩) mg (.slice fJ ((aj l0 aG).f1.f1).length fK)).trans eH;replace eI:=(cell_far (p:=⟨bB,2,none⟩) mg (.slice fJ ((aj l0 aG).f1.f1).length fK)).trans eI;replace eJ:=(cell_far (p:=⟨bB,2,none⟩) mg (.slice fJ ((aj l0 aG).f1.f1).length fK)).trans eJ;replace eK:=(cell_far (p:=⟨bB,2,none⟩) mg (.slice fJ ((aj l0 aG).f1.f1).length fK)).trans eK;replace eN:=(cell_far (p:=⟨bB,2,none⟩) mg (.slice fJ ((aj l0 aG).f1.f1).length fK)).trans eN;replace eO:=(cell_far (p:=⟨bB,2,none⟩) mg (.slice fJ ((aj l0 aG).f1.f1).length fK)).trans eO;replace ez:=(cell_far (p:=⟨bB,3,none⟩) mh (.string ((aj l0 aG).f1.f2.f0))).trans ez;replace eF:=(cell_far (p:=⟨bB,3,none⟩) mh (.string ((aj l0 aG).f1.f2.f0))).trans eF;replace eG:=(cell_far (p:=⟨bB,3,none⟩) mh (.string ((aj l0 aG).f1.f2.f0))).trans eG;replace eH:=(cell_far (p:=⟨bB,3,none⟩) mh (.string ((aj l0 aG).f1.f2.f0))).trans eH;replace eI:=(cell_far (p:=⟨bB,3,none⟩) mh (.string ((aj l0 aG).f1.f2.f0))).trans eI;replace eJ:=(cell_far (p:=⟨bB,3,none⟩) mh (.string ((aj l0 aG).f1.f2.f0))).trans eJ;replace eK:=(cell_far (p:=⟨bB,3,none⟩) mh (.string ((aj l0 aG).f1.f2.f0))).trans eK;replace eN:=(cell_far (p:=⟨bB,3,none⟩) mh (.string ((aj l0 aG).f1.f2.f0))).trans eN;replace eO:=(cell_far (p:=⟨bB,3,none⟩) mh (.string ((aj l0 aG).f1.f2.f0))).trans eO;replace ez:=(cell_far (p:=⟨bB,4,none⟩) mj (.string ((aj l0 aG).f1.f2.f1))).trans ez;replace eF:=(cell_far (p:=⟨bB,4,none⟩) mj (.string ((aj l0 aG).f1.f2.f1))).trans eF;replace eG:=(cell_far (p:=⟨bB,4,none⟩) mj (.string ((aj l0 aG).f1.f2.f1))).trans eG;replace eH:=(cell_far (p:=⟨bB,4,none⟩) mj (.string ((aj l0 aG).f1.f2.f1))).trans eH;replace eI:=(cell_far (p:=⟨bB,4,none⟩) mj (.string ((aj l0 aG).f1.f2.f1))).trans eI;replace eJ:=(cell_far (p:=⟨bB,4,none⟩) mj (.string ((aj l0 aG).f1.f2.f1))).trans eJ;replace eK:=(cell_far (p:=⟨bB,4,none⟩) mj (.string ((aj l0 aG).f1.f2.f1))).trans eK;replace eN:=(cell_far (p:=⟨bB,4,none⟩) mj (.string ((aj l0 aG).f1.f2.f1))).trans eN;replace eO:=(cell_far (p:=⟨bB,4,none⟩) mj (.string ((aj l0 aG).f1.f2.f1))).trans eO;replace ez:=(cell_far (p:=⟨bB,5,none⟩) mo (.bool ((aj l0 aG).f1.f2.f2))).trans ez;replace eF:=(cell_far (p:=⟨bB,5,none⟩) mo (.bool ((aj l0 aG).f1.f2.f2))).trans eF;replace eG:=(cell_far (p:=⟨bB,5,none⟩) mo (.bool ((aj l0 aG).f1.f2.f2))).trans eG;replace eH:=(cell_far (p:=⟨bB,5,none⟩) mo (.bool ((aj l0 aG).f1.f2.f2))).trans eH;replace eI:=(cell_far (p:=⟨bB,5,none⟩) mo (.bool ((aj l0 aG).f1.f2.f2))).trans eI;replace eJ:=(cell_far (p:=⟨bB,5,none⟩) mo (.bool ((aj l0 aG).f1.f2.f2))).trans eJ;replace eK:=(cell_far (p:=⟨bB,5,none⟩) mo (.bool ((aj l0 aG).f1.f2.f2))).trans eK;replace eN:=(cell_far (p:=⟨bB,5,none⟩) mo (.bool ((aj l0 aG).f1.f2.f2))).trans eN;replace eO:=(cell_far (p:=⟨bB,5,none⟩) mo (.bool ((aj l0 aG).f1.f2.f2))).trans eO;replace ez:=(cell_far (p:=⟨bB,6,none⟩) mq (.slice gT ((aj l0 aG).f2).length gU)).trans ez;replace eF:=(cell_far (p:=⟨bB,6,none⟩) mq (.slice gT ((aj l0 aG).f2).length gU)).trans eF;replace eG:=(cell_far (p:=⟨bB,6,none⟩) mq (.slice gT ((aj l0 aG).f2).length gU)).trans eG;replace eH:=(cell_far (p:=⟨bB,6,none⟩) mq (.slice gT ((aj l0 aG).f2).length gU)).trans eH;replace eI:=(cell_far (p:=⟨bB,6,none⟩) mq (.slice gT ((aj l0 aG).f2).length gU)).trans eI;replace eJ:=(cell_far (p:=⟨bB,6,none⟩) mq (.slice gT ((aj l0 aG).f2).length gU)).trans eJ;replace eK:=(cell_far (p:=⟨bB,6,none⟩) mq (.slice gT ((aj l0 aG).f2).length gU)).trans eK;replace eN:=(cell_far (p:=⟨bB,6,none⟩) mq (.slice gT ((aj l0 aG).f2).length gU)).trans eN;replace eO:=(cell_far (p:=⟨bB,6,none⟩) mq (.slice gT ((aj l0 aG).f2).length gU)).trans eO;replace ez:=(cell_far (p:=⟨bB,7,none⟩) mz (.slice iI ((aj l0 aG).f3).length iJ)).trans ez;replace eF:=(cell_far (p:=⟨bB,7,none⟩) mz (.slice iI ((aj l0 aG).f3).length iJ)).trans eF;replace eG:=(cell_far (p:=⟨bB,7,none⟩) mz (.slice iI ((aj l0 aG).f3).length iJ)).trans eG;replace eH:=(cell_far (p:=⟨bB,7,none⟩) mz (.slice iI ((aj l0 aG).f3).length iJ)).trans eH;replace eI:=(cell_far (p:=⟨bB,7,none⟩) mz (.slice iI ((aj l0 aG).f3).length iJ)).trans eI;replace eJ:=(cell_far (p:=⟨bB,7,none⟩) mz (.slice iI ((aj l0 aG).f3).length iJ)).trans eJ;replace eK:=(cell_far (p:=⟨bB,7,none⟩) mz (.slice iI ((aj l0 aG).f3).length iJ)).trans eK;replace eN:=(cell_far (p:=⟨bB,7,none⟩) mz (.slice iI ((aj l0 aG).f3).length iJ)).trans eN;replace eO:=(cell_far (p:=⟨bB,7,none⟩) mz (.slice iI ((aj l0 aG).f3).length iJ)).trans eO;replace ez:=(cell_far (p:=⟨bB,8,none⟩) mA (.int .i64 ((aj l0 aG).f4))).trans ez;replace eF:=(cell_far (p:=⟨bB,8,none⟩) mA (.int .i64 ((aj l0 aG).f4))).trans eF;replace eG:=(cell_far (p:=⟨bB,8,none⟩) mA (.int .i64 ((aj l0 aG).f4))).trans eG;replace eH:=(cell_far (p:=⟨bB,8,none⟩) mA (.int .i64 ((aj l0 aG).f4))).trans eH;replace eI:=(cell_far (p:=⟨bB,8,none⟩) mA (.int .i64 ((aj l0 aG).f4))).trans eI;replace eJ:=(cell_far (p:=⟨bB,8,none⟩) mA (.int .i64 ((aj l0 aG).f4))).trans eJ;replace eK:=(cell_far (p:=⟨bB,8,none⟩) mA (.int .i64 ((aj l0 aG).f4))).trans eK;replace eN:=(cell_far (p:=⟨bB,8,none⟩) mA (.int .i64 ((aj l0 aG).f4))).trans eN;replace eO:=(cell_far (p:=⟨bB,8,none⟩) mA (.int .i64 ((aj l0 aG).f4))).trans eO;clear BZ;clear B0;clear Ca;clear Cb;clear Cc;clear Ce;clear Cf;clear Cg;clear Ci;replace Nr:=eq_true Nr;replace Ns:=eq_true Ns)|((with_reducible refine bp (N:=9) rfl ?_);refine br ?hg (N:=9) ?hd (cs:=#[.int .i64 0,.bool false,.slice none 0 0,.string (⟨#[]⟩:ByteArray),.string (⟨#[]⟩:ByteArray),.bool false,.slice none 0 0,.slice none 0 0,.int .i64 0]) (t:=34) ?hr ?_;(case hd=>rfl);(case hg=>rfl);(case hr=>(go_simp;done));intro kO hg BX bG hb;have iL:=ah.mk (bG);have akW:=ah.mk ((Ge:w.heap.size≤kO));have aa6:=ah.mk ((Ge:w.heap.size≤kO));replace HB:=ah.mk (ay SM hb);have kK:=ah.mk ((aa4:bB≠kO));have Bd:=ah.mk ((aa5:kO≠bB));replace dN:=ah.mk (aA (g:=bB) (o:= .cells #[.int .i64 ((aj l0 aG).f0),.bool ((aj l0 aG).f1.f0),.slice fJ ((aj l0 aG).f1.f1).length fK,.string ((aj l0 aG).f1.f2.f0),.string ((aj l0 aG).f1.f2.f1),.bool ((aj l0 aG).f1.f2.f2),.slice gT ((aj l0 aG).f2).length gU,.slice iI ((aj l0 aG).f3).length iJ,.int .i64 ((aj l0 aG).f4)] 34 (0,0)) aa3 hb);clear hb bG hg;have abT:=Bd.out;have abU:=kK.out;have Hw:BX.cell? ⟨kO,0,none⟩=some (.int .i64 0):=(af iL.out 0).trans rfl;have Hx:BX.cell? ⟨kO,1,none⟩=some (.bool false):=(af iL.out 1).trans rfl;have Hy:BX.cell? ⟨kO,2,none⟩=some (.slice none 0 0):=(af iL.out 2).trans rfl;have Hz:BX.cell? ⟨kO,3,none⟩=some (.string (⟨#[]⟩:ByteArray)):=(af iL.out 3).trans rfl;have HJ:BX.cell? ⟨kO,4,none⟩=some (.string (⟨#[]⟩:ByteArray)):=(af iL.out 4).trans rfl;have H6:BX.cell? ⟨kO,5,none⟩=some (.bool false):=(af iL.out 5).trans rfl;have H7:BX.cell? ⟨kO,6,none⟩=some (.slice none 0 0):=(af iL.out 6).trans rfl;have H9:BX.cell? ⟨kO,7,none⟩=some (.slice none 0 0):=(af iL.out 7).trans rfl;have Ia:BX.cell? ⟨kO,8,none⟩=some (.int .i64 0):=(af iL.out 8).trans rfl;have Ib:=aa iL.out 0;have Ic:=aa iL.out 1;have Ie:=aa iL.out 2;have Ig:=aa iL.out 3;have Ih:=aa iL.out 4;have Ii:=aa iL.out 5;have Ij:=aa iL.out 6;have Ik:=aa iL.out 7;have Il:=aa iL.out 8;have WK:BX.cell? ⟨bB,0,none⟩=some (.int .i64 ((aj l0 aG).f0)):=(af dN.out 0).trans rfl;have WL:BX.cell? ⟨bB,1,none⟩=some (.bool ((aj l0 aG).f1.f0)):=(af dN.out 1).trans rfl;have WM:BX.cell? ⟨bB,2,none⟩=some (.slice fJ ((aj l0 aG).f1.f1).length fK):=(af dN.out 2).trans rfl;have WN:BX.cell? ⟨bB,3,none⟩=some (.string ((aj l0 aG).f1.f2.f0)):=(af dN.out 3).trans rfl;have WO:BX.cell? ⟨bB,4,none⟩=some (.string ((aj l0 aG).f1.f2.f1)):=(af dN.out 4).trans rfl;have avR:BX.cell? ⟨bB,5,none⟩=some (.bool ((aj l0 aG).f1.f2.f2)):=(af dN.out 5).trans rfl;have avS:BX.cell? ⟨bB,6,none⟩=some (.slice gT ((aj l0 aG).f2).length gU):=(af dN.out 6).trans rfl;have avT:BX.cell? ⟨bB,7,none⟩=some (.slice iI ((aj l0 aG).f3).length iJ):=(af dN.out 7).trans rfl;have avU:BX.cell? ⟨bB,8,none⟩=some (.int .i64 ((aj l0 aG).f4)):=(af dN.out 8).trans rfl;have WQ:=aa dN.out 0;have WR:=aa dN.out 1;have WS:=aa dN.out 2;have WT:=aa dN.out 3;have WU:=aa dN.out 4;have avV:=aa dN.out 5;have avW:=aa dN.out 6;have avX:=aa dN.out 7;have avY:=aa dN.out 8)|(go_at_call 70;(with_reducible refine (gp.calls k1 ((aj l0 aG).f0) ((aj l0 aG).f1.f0) _ _ ((aj l0 aG).f1.f1) ((aj l0 aG).f1.f2.f0) ((aj l0 aG).f1.f2.f1) ((aj l0 aG).f1.f2.f2) _ _ ((aj l0 aG).f2) _ _ ((aj l0 aG).f3) ((aj l0 aG).f4) ((aj l1 aG).f0) ((aj l1 aG).f1.f0) _ _ ((aj l1 aG).f1.f1) ((aj l1 aG).f1.f2.f0) ((aj l1 aG).f1.f2.f1) ((aj l1 aG).f1.f2.f2) _ _ ((aj l1 aG).f2) _ _ ((aj l1 aG).f3) ((aj l1 aG).f4) false _ ?bn ?bN ?cW ?fD ?gK ?gL ?nC ?tI ?tJ ?Nt ?Nu ?Nv A9.out).mono ?_);(case bn=>exact Kd.bQ JH.out oz);(case bN=>exact JI.out);(case cW=>exact Kd.bQ JJ.out oz);(case fD=>exact JK.out);(case gK=>exact Kd.bQ JL.out oz);(case gL=>exact JM.out);(case nC=>exact Kd.bQ JN.out oz);(case tI=>exact JO.out);(case tJ=>exact Kd.bQ JP.out oz);(case Nt=>exact JQ.out);(case Nu=>exact Kd.bQ JR.out oz);(case Nv=>exact JS.out);rintro e yP ⟨rfl,hb⟩;replace dN:=ah.mk (aA (g:=bB) (o:= .cells #[.int .i64 ((aj l0 aG).f0),.bool ((aj l0 aG).f1.f0),.slice fJ ((aj l0 aG).f1.f1).length fK,.string ((aj l0 aG).f1.f2.f0),.string ((aj l0 aG).f1.f2.f1),.bool ((aj l0 aG).f1.f2.f2),.slice gT ((aj l0 aG).f2).length gU,.slice iI ((aj l0 aG).f3).length iJ,.int .i64 ((aj l0 aG).f4)] 34 (0,0)) SQ hb);replace iL:=ah.mk (aA (g:=kO) (o:= .cells #[.int .i64 ((aj l1 aG).f0),.bool ((aj l1 aG).f1.f0),.slice tT ((aj l1 aG).f1.f1).length tU,.string ((aj l1 aG).f1.f2.f0),.string ((aj l1 aG).f1.f2.f1),.bool ((aj l1 aG).f1.f2.f2),.slice Du ((aj l1 aG).f2).length Dv,.slice Gc ((aj l1 aG).f3).length Gd,.int .i64 ((aj l1 aG).f4)] 34 (0,0)) SJ hb);replace HB:=ah.mk (ay oz hb);(try clear hb)))
      go_ret
      exact ⟨by rfl,aJ⟩
    ·rw [if_neg c5] at H
     have p8:=decide_eq_false c5
     clear c5
     obtain rfl:=Option.some.inj H
     go_wp2
     go_ret
     exact ⟨by rfl,aJ⟩
 ·rw [if_neg c4] at H
  have mQ:=beq_eq_false_iff_ne.mpr c4
  have AE:=bne_iff_ne.mpr c4
  have azc:(l0.length == l1.length)=false:=by (simp at c4 ⊢;omega)
  obtain rfl:=Option.some.inj H
  go_enter Tryz.func69,Tryz.ntmps69
  go_wp2
  go_ret
  exact ⟨by rfl,aJ⟩
def iV.f (k:Nat) (bg:Int) (aI:List (pE)) (gz:Int) (Be:List (pE)):Option (Bool):=if bg=gz then ((au.f k aI Be).bind fun t301=>(some t301)) else (some false)
theorem iV.mono:∀ a0 a1 a2 a3 k,eZ (iV.f k a0 a1 a2 a3) (iV.f (k + 1) a0 a1 a2 a3):=by
 intro a0 a1 a2 a3 k
 unfold iV.f
 repeat' (with_reducible first|exact au.mono _ _ _|exact eZ.refl _|refine eZ.ite ?_ ?_|refine eZ.bind ?_ (fun _ =>?_))
theorem iV.calls (k:Nat) (bg:Int) (jk:Option Addr) (ia:Nat) (aI:List (pE)) (gz:Int) (R7:Option Addr) (R8:Nat) (Be:List (pE)) (r:Bool) (w:World) (nX:Kd.C Fw w jk aI.length aI) (nY:aI.length≤ia) (abV:Kd.C Fw w R7 Be.length Be) (abW:Be.length≤R8) (h:iV.f k bg aI gz Be=some r):
 Calls Tryz.prog 25 #[.agg #[.int .i64 bg,.slice jk aI.length ia],.agg #[.int .i64 gz,.slice R7 Be.length R8]] w fun e w'=>e= .returned (.bool r)∧Below w.heap.size w w':=by
 have RI:=Tryz.underlying40
 have rI:=ah.mk nX
 have Ea:=ah.mk nY
 clear nX nY
 have akX:=ah.mk abV
 have akY:=ah.mk abW
 clear abV abW
 have HB:=ah.mk (Below.refl w.heap.size w)
 have H:(if bg=gz then ((au.f k aI Be).bind fun t301=>(some t301)) else (some false))=some r:=h
 clear h
 by_cases c3:bg=gz
 ·rw [if_pos c3] at H
  have ny:=beq_iff_eq.mpr c3
  have xX:=bne_eq_false_iff_eq.mpr c3
  clear c3
  obtain ⟨t301,A4,H⟩:=bd_ H
  obtain rfl:=Option.some.inj H
  go_enter Tryz.func25,Tryz.ntmps25
  go_wp2_with (first|((with_reducible refine bp (N:=2) rfl ?_);refine br ?hg (N:=2) ?hd (cs:=#[.int .i64 bg,.slice jk aI.length ia]) (t:=40) ?hr ?_;(case hd=>rfl);(case hg=>rfl);(case hr=>(go_simp;done));intro tK hg w5 bG hb;have tj:=ah.mk (bG);have akZ:=ah.mk ((bF:w.heap.size≤tK));have ak0:=ah.mk ((bF:w.heap.size≤tK));replace HB:=ah.mk (ay aJ hb);clear hb bG hg)|((with_reducible refine bp (N:=3) rfl ?_);refine br ?hg (N:=3) ?hd (cs:=#[.int .i64 gz,.slice R7 Be.length R8]) (t:=40) ?hr ?_;(case hd=>rfl);(case hg=>rfl);(case hr=>(go_simp;done));intro tL hg w6 bG hb;have wB:=ah.mk (bG);have ak1:=ah.mk ((bF:w.heap.size≤tL));have ak2:=ah.mk ((bF:w.heap.size≤tL));replace HB:=ah.mk (ay aJ hb);have Bf:=ah.mk ((by rw [hg];exact Nat.ne_of_lt (dQ ug):tK≠tL));have Bg:=ah.mk ((by rw [hg];exact Nat.ne_of_gt (dQ ug):tL≠tK));replace tj:=ah.mk (aA ug hb);clear hb bG hg;have ahG:=Bf.out;have ahH:=Bg.out;have DV:w6.cell? ⟨tK,0,none⟩=some (.int .i64 bg):=(af tj.out 0).trans rfl;have DW:w6.cell? ⟨tK,1,none⟩=some (.slice jk aI.length ia):=(af tj.out 1).trans rfl;have DX:=aa tj.out 0;have DY:=aa tj.out 1;have Ay:w6.cell? ⟨tL,0,none⟩=some (.int .i64 gz):=(af wB.out 0).trans rfl;have Az:w6.cell? ⟨tL,1,none⟩=some (.slice R7 Be.length R8):=(af wB.out 1).trans rfl;have AA:=aa wB.out 0;have AB:=aa wB.out 1)|(go_at_call 69;(with_reducible refine (au.calls k _ _ aI _ _ Be t301 _ ?bn ?bN ?cW ?fD A4.out).mono ?_);(case bn=>repeat (exact (Kd.bQ rI.out HB.out)));(case bN=>exact Ea.out);(case cW=>repeat (exact (Kd.bQ akX.out HB.out)));(case fD=>exact akY.out);rintro e pF ⟨rfl,hb⟩;replace tj:=ah.mk (aA ug hb);replace wB:=ah.mk (aA (by exact wB.out) hb);replace HB:=ah.mk (ay aJ hb);(try clear hb)))
  go_ret
  exact ⟨by rfl,aJ⟩
 ·rw [if_neg c3] at H
  have ny:=beq_eq_false_iff_ne.mpr c3
  have xX:=bne_iff_ne.mpr c3
  obtain rfl:=Option.some.inj H
  go_enter Tryz.func25,Tryz.ntmps25
  go_wp2_with (first|((with_reducible refine bp (N:=2) rfl ?_);refine br ?hg (N:=2) ?hd (cs:=#[.int .i64 bg,.slice jk aI.length ia]) (t:=40) ?hr ?_;(case hd=>rfl);(case hg=>rfl);(case hr=>(go_simp;done));intro tK hg xq bG hb;have tj:=ah.mk (bG);have akZ:=ah.mk ((bF:w.heap.size≤tK));have ak0:=ah.mk ((bF:w.heap.size≤tK));replace HB:=ah.mk (ay aJ hb);clear hb bG hg)|((with_reducible refine bp (N:=3) rfl ?_);refine br ?hg (N:=3) ?hd (cs:=#[.int .i64 gz,.slice R7 Be.length R8]) (t:=40) ?hr ?_;(case hd=>rfl);(case hg=>rfl);(case hr=>(go_simp;done));intro tL hg D3 bG hb;have wB:=ah.mk (bG);have ak1:=ah.mk ((bF:w.heap.size≤tL));have ak2:=ah.mk ((bF:w.heap.size≤tL));replace HB:=ah.mk (ay aJ hb);have Bf:=ah.mk ((by rw [hg];exact Nat.ne_of_lt (dQ ug):tK≠tL));have Bg:=ah.mk ((by rw [hg];exact Nat.ne_of_gt (dQ ug):tL≠tK));replace tj:=ah.mk (aA ug hb);clear hb bG hg;have akh:=Bf.out;have aki:=Bg.out;have zx:D3.cell? ⟨tK,0,none⟩=some (.int .i64 bg):=(af tj.out 0).trans rfl;have zy:D3.cell? ⟨tK,1,none⟩=some (.slice jk aI.length ia):=(af tj.out 1).trans rfl;have zz:=aa tj.out 0;have zA:=aa tj.out 1;have Jm:D3.cell? ⟨tL,0,none⟩=some (.int .i64 gz):=(af wB.out 0).trans rfl;have Jn:D3.cell? ⟨tL,1,none⟩=some (.slice R7 Be.length R8):=(af wB.out 1).trans rfl;have Jo:=aa wB.out 0;have Jp:=aa wB.out 1))
  go_ret
  exact ⟨by rfl,aJ⟩
end Go.Proofs.YtbjjaaodfbjkfaaGreatDoor.mU
