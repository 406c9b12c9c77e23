import Derived.Test.YtbjjaaodfbjkfaaGreatDoorQQux10
namespace Go.Proofs.YtbjjaaodfbjkfaaGreatDoor.mU
open Go.RowKit Go.Proofs.YtbjjaaodfbjkfaaGreatDoor.yN Go.Proofs.ak.bR Go.Proofs.ak.dz Go.Proofs.ak.cZ
attribute [local go_sem] iR iT jW jX gW gX jh ji
set_option linter.unusedVariables false
set_option linter.unusedSimpArgs false
def cK.j0:Nat→Int→Bool→Int→Int→Int→Int→Int→Bool→List ByteArray→ByteArray→ByteArray→Bool→List (jM)→List Int→Int→Option (Bool)
 | 0,_,_,_,_,_,_,_,_,_,_,_,_,_,_,_ =>none
 |k + 1,pG,x53,aqw,aqx,ZB,PM,PN,PO,PR,PS,PT,PU,PV,PW,PX=>if x53=true then (if PM=0 then ((dc.f PN PO PR PS PT PU PV PW PX).bind fun t229=>(some t229)) else (some false)) else (if pG=6 then (if (wrap64 (ZB + PM))=0 then ((dc.f PN PO PR PS PT PU PV PW PX).bind fun t230=>(some t230)) else (some false)) else (some false))
def cK.f (k:Nat) (bg:Int) (bP:Int) (cE:Int) (bD:Int) (bI:Int) (bU:Bool) (bL:List ByteArray) (gG:ByteArray) (bW:ByteArray) (gH:Bool) (dO:List (jM)) (dP:List Int) (eP:Int):Option (Bool):=(cQ.f k (([bP,cE,bD]:List Int))).bind fun t224=>(if t224=true then (if bg=1 then (if (wrap64 ((wrap64 (bP + cE)) + bD))=0 then ((gJ.f k bI bU bL gG bW gH dO dP eP).bind fun t225=>(some t225)) else (some false)) else (if bg=5 then (if (wrap64 (cE + bD))=0 then ((dc.f bI bU bL gG bW gH dO dP eP).bind fun t226=>(if t226=true then (some true) else ((gJ.f k bI bU bL gG bW gH dO dP eP).bind fun t227=>(some t227)))) else (some false)) else (if bg=2 then ((dc.f bI bU bL gG bW gH dO dP eP).bind fun t228=>(some t228)) else (if bg=3 then (cK.j0 k bg (bg == 3) bg bP cE bD bI bU bL gG bW gH dO dP eP) else (cK.j0 k bg (bg == 4) bg bP cE bD bI bU bL gG bW gH dO dP eP))))) else (some false))
theorem cK.ey:∀ k,(∀ y0 y1 y2 y3 y4 y5 y6 y7 y8 y9 y10 y11 y12 y13 y14,eZ (cK.j0 k y0 y1 y2 y3 y4 y5 y6 y7 y8 y9 y10 y11 y12 y13 y14) (cK.j0 (k + 1) y0 y1 y2 y3 y4 y5 y6 y7 y8 y9 y10 y11 y12 y13 y14))
 | 0=>fun _ _ _ _ _ _ _ _ _ _ _ _ _ _ _ r h=>by simp [cK.j0] at h
 |k + 1=>by
  have mH:=cK.ey k
  ·intro y0 y1 y2 y3 y4 y5 y6 y7 y8 y9 y10 y11 y12 y13 y14
   unfold cK.j0
   repeat' (with_reducible exact eZ.refl _)
theorem cK.mono:∀ a0 a1 a2 a3 a4 a5 a6 a7 a8 a9 UI UJ a12 k,eZ (cK.f k a0 a1 a2 a3 a4 a5 a6 a7 a8 a9 UI UJ a12) (cK.f (k + 1) a0 a1 a2 a3 a4 a5 a6 a7 a8 a9 UI UJ a12):=by
 intro a0 a1 a2 a3 a4 a5 a6 a7 a8 a9 UI UJ a12 k
 have mH:=cK.ey k
 unfold cK.f
 repeat' (with_reducible first|exact mH _ _ _ _ _ _ _ _ _ _ _ _ _ _ _|exact gJ.mono _ _ _ _ _ _ _ _ _ _|exact cQ.mono _ _|exact eZ.refl _|refine eZ.ite ?_ ?_|refine eZ.bind ?_ (fun _ =>?_))
set_option maxHeartbeats 8000000 in
set_option maxRecDepth 100000 in
theorem cK.calls (k:Nat) (bg:Int) (bP:Int) (cE:Int) (bD:Int) (bI:Int) (bU:Bool) (cV:Option Addr) (cU:Nat) (bL:List ByteArray) (gG:ByteArray) (bW:ByteArray) (gH:Bool) (iD:Option Addr) (iE:Nat) (dO:List (jM)) (iF:Option Addr) (iG:Nat) (dP:List Int) (eP:Int) (r:Bool) (w:World) (mN:Kd.C Kd.string w cV bL.length bL) (mY:bL.length≤cU) (Eh:Kd.C sM w iD dO.length dO) (Ei:dO.length≤iE) (Ej:Kd.C (Kd.int .u8) w iF dP.length dP) (Ek:dP.length≤iG) (hG:bq w) (h:cK.f k bg bP cE bD bI bU bL gG bW gH dO dP eP=some r):
 Calls Tryz.prog 58 #[.agg #[.int .u8 bg,.int .i64 bP,.int .i64 cE,.int .i64 bD,.int .i64 bI,.bool bU,.slice cV bL.length cU,.string gG,.string bW,.bool gH,.slice iD dO.length iE,.slice iF dP.length iG,.int .i64 eP]] w fun e w'=>e= .returned (.bool r)∧Below w.heap.size w w':=by
 have ahZ:=Tryz.underlying46
 have BW:=Tryz.underlying34
 have lQ:=ah.mk mN
 have mF:=ah.mk mY
 clear mN mY
 have uN:=ah.mk Eh
 have uO:=ah.mk Ei
 clear Eh Ei
 have uP:=ah.mk Ej
 have uQ:=ah.mk Ek
 clear Ej Ek
 have HB:=ah.mk (Below.refl w.heap.size w)
 have HG:=ah.mk hG
 clear hG
 have H:((cQ.f k (([bP,cE,bD]:List Int))).bind fun t224=>(if t224=true then (if bg=1 then (if (wrap64 ((wrap64 (bP + cE)) + bD))=0 then ((gJ.f k bI bU bL gG bW gH dO dP eP).bind fun t225=>(some t225)) else (some false)) else (if bg=5 then (if (wrap64 (cE + bD))=0 then ((dc.f bI bU bL gG bW gH dO dP eP).bind fun t226=>(if t226=true then (some true) else ((gJ.f k bI bU bL gG bW gH dO dP eP).bind fun t227=>(some t227)))) else (some false)) else (if bg=2 then ((dc.f bI bU bL gG bW gH dO dP eP).bind fun t228=>(some t228)) else (if bg=3 then (cK.j0 k bg (bg == 3) bg bP cE bD bI bU bL gG bW gH dO dP eP) else (cK.j0 k bg (bg == 4) bg bP cE bD bI bU bL gG bW gH dO dP eP))))) else (some false)))=some r:=h
 clear h
 obtain ⟨wu,UK⟩:∃ y_:List Int,y_=(([bP,cE,bD]:List Int)):=⟨_,rfl⟩
 replace H:((cQ.f k wu).bind fun t224=>(if t224=true then (if bg=1 then (if (wrap64 ((wrap64 (bP + cE)) + bD))=0 then ((gJ.f k bI bU bL gG bW gH dO dP eP).bind fun t225=>(some t225)) else (some false)) else (if bg=5 then (if (wrap64 (cE + bD))=0 then ((dc.f bI bU bL gG bW gH dO dP eP).bind fun t226=>(if t226=true then (some true) else ((gJ.f k bI bU bL gG bW gH dO dP eP).bind fun t227=>(some t227)))) else (some false)) else (if bg=2 then ((dc.f bI bU bL gG bW gH dO dP eP).bind fun t228=>(some t228)) else (if bg=3 then (cK.j0 k bg (bg == 3) bg bP cE bD bI bU bL gG bW gH dO dP eP) else (cK.j0 k bg (bg == 4) bg bP cE bD bI bU bL gG bW gH dO dP eP))))) else (some false)))=some r:=by (rw [UK];with_reducible exact H)
 have BK:=ah.mk UK
 clear UK
 obtain ⟨t224,A2,H⟩:=bd_ H
 by_cases c3:t224=true
 ·subst c3
  rw [if_pos rfl] at H
  by_cases c4:bg=1
  ·rw [if_pos c4] at H
   have mQ:=beq_iff_eq.mpr c4
   have AE:=bne_eq_false_iff_eq.mpr c4
   clear c4
   by_cases c5:(wrap64 ((wrap64 (bP + cE)) + bD))=0
   ·rw [if_pos c5] at H
    have p8:=beq_iff_eq.mpr c5
    have Mr:=bne_eq_false_iff_eq.mpr c5
    clear c5
    obtain ⟨t225,A6,H⟩:=bd_ H
    obtain rfl:=Option.some.inj H
    go_enter Tryz.func58,Tryz.ntmps58
    go_wp2_with (first|((with_reducible refine bp (N:=1) rfl ?_);refine br ?hg (N:=1) ?hd (cs:=#[.int .u8 bg,.int .i64 bP,.int .i64 cE,.int .i64 bD,.int .i64 bI,.bool bU,.slice cV bL.length cU,.string gG,.string bW,.bool gH,.slice iD dO.length iE,.slice iF dP.length iG,.int .i64 eP]) (t:=46) ?hr ?_;(case hd=>rfl);(case hg=>rfl);(case hr=>(go_simp;done));intro bh hg w7 bG hb;have aC:=ah.mk (bG);have El:=ah.mk ((bF:w.heap.size≤bh));have Em:=ah.mk ((bF:w.heap.size≤bh));replace HB:=ah.mk (ay aJ hb);clear hb bG hg;have DV:w7.cell? ⟨bh,0,none⟩=some (.int .u8 bg):=(af aC.out 0).trans rfl;have DW:w7.cell? ⟨bh,1,none⟩=some (.int .i64 bP):=(af aC.out 1).trans rfl;have Ua:w7.cell? ⟨bh,2,none⟩=some (.int .i64 cE):=(af aC.out 2).trans rfl;have adN:w7.cell? ⟨bh,3,none⟩=some (.int .i64 bD):=(af aC.out 3).trans rfl;have adO:w7.cell? ⟨bh,4,none⟩=some (.int .i64 bI):=(af aC.out 4).trans rfl;have adP:w7.cell? ⟨bh,5,none⟩=some (.bool bU):=(af aC.out 5).trans rfl;have adQ:w7.cell? ⟨bh,6,none⟩=some (.slice cV bL.length cU):=(af aC.out 6).trans rfl;have adR:w7.cell? ⟨bh,7,none⟩=some (.string gG):=(af aC.out 7).trans rfl;have adS:w7.cell? ⟨bh,8,none⟩=some (.string bW):=(af aC.out 8).trans rfl;have ayA:w7.cell? ⟨bh,9,none⟩=some (.bool gH):=(af aC.out 9).trans rfl;have aqy:w7.cell? ⟨bh,10,none⟩=some (.slice iD dO.length iE):=(af aC.out 10).trans rfl;have aqz:w7.cell? ⟨bh,11,none⟩=some (.slice iF dP.length iG):=(af aC.out 11).trans rfl;have aqA:w7.cell? ⟨bh,12,none⟩=some (.int .i64 eP):=(af aC.out 12).trans rfl;have DX:=aa aC.out 0;have DY:=aa aC.out 1;have Ub:=aa aC.out 2;have adT:=aa aC.out 3;have adU:=aa aC.out 4;have adV:=aa aC.out 5;have adW:=aa aC.out 6;have adX:=aa aC.out 7;have adY:=aa aC.out 8;have ayB:=aa aC.out 9;have aqB:=aa aC.out 10;have aqC:=aa aC.out 11;have aqD:=aa aC.out 12)|((with_reducible refine bp (N:=9) rfl ?_);refine Kd.mM (Kd.int .i64) _ 3 ?hg (N:=9) ?hd (xs:=([bP,cE,bD]:List Int)) (inner:=[.int .i64 bP,.int .i64 cE,.int .i64 bD]) (ok:=fun _ =>True) (pR:=fun _ =>True) ?hr ?hp (fun _ hk=>hk) trivial (Below.refl _ _) (Nat.le_refl _) cF ?_;(case hd=>rfl);(case hg=>rfl);(case hr=>(go_simp;done));(case hp=>exact (dJ.one (show Kd.M (Kd.int .i64) _ _ _ bP [.int .i64 bP] from rfl) (dJ.one (show Kd.M (Kd.int .i64) _ _ _ cE [.int .i64 cE] from rfl) (dJ.one (show Kd.M (Kd.int .i64) _ _ _ bD [.int .i64 bD] from rfl) (dJ.none _ _)))));intro v222 w9 adZ hb rz gS;clear rz gS;(rw [← BK.out] at adZ);have iZ:=ah.mk (Kd.dX adZ (b7 aJ));replace aC:=ah.mk (aA nL hb);replace HB:=ah.mk (ay aJ hb);clear hb adZ;obtain ⟨yQ,yR,adz⟩:=Kd.dm iZ.out;subst adz)|((with_reducible refine bK (f:=102) rfl ?_);refine dB (some 10) rfl rfl Tryz.func102 aq rfl #[.slice yQ wu.length yR] rfl dK ?_;(with_reducible refine (cQ.calls k _ _ wu true _ ?bn ?bN A2.out).mono ?_);(case bn=>repeat (exact (Kd.ck iZ.out).2.2));(case bN=>exact (Kd.ck iZ.out).2.1);rintro e w' ⟨rfl,⟨nd,rfl⟩⟩;refine ⟨_,rfl,?_⟩;have xu:w9.cell? ⟨bh,0,none⟩=some (.int .u8 bg):=(af aC.out 0).trans rfl;have xw:w9.cell? ⟨bh,1,none⟩=some (.int .i64 bP):=(af aC.out 1).trans rfl;have zu:w9.cell? ⟨bh,2,none⟩=some (.int .i64 cE):=(af aC.out 2).trans rfl;have CB:w9.cell? ⟨bh,3,none⟩=some (.int .i64 bD):=(af aC.out 3).trans rfl;have CC:w9.cell? ⟨bh,4,none⟩=some (.int .i64 bI):=(af aC.out 4).trans rfl;have CD:w9.cell? ⟨bh,5,none⟩=some (.bool bU):=(af aC.out 5).trans rfl;have CE:w9.cell? ⟨bh,6,none⟩=some (.slice cV bL.length cU):=(af aC.out 6).trans rfl;have CF:w9.cell? ⟨bh,7,none⟩=some (.string gG):=(af aC.out 7).trans rfl;have CG:w9.cell? ⟨bh,8,none⟩=some (.string bW):=(af aC.out 8).trans rfl;have aqE:w9.cell? ⟨bh,9,none⟩=some (.bool gH):=(af aC.out 9).trans rfl;have ah0:w9.cell? ⟨bh,10,none⟩=some (.slice iD dO.length iE):=(af aC.out 10).trans rfl;have ah1:w9.cell? ⟨bh,11,none⟩=some (.slice iF dP.length iG):=(af aC.out 11).trans rfl;have ah2:w9.cell? ⟨bh,12,none⟩=some (.int .i64 eP):=(af aC.out 12).trans rfl;have xx:=aa aC.out 0;have xy:=aa aC.out 1;have zw:=aa aC.out 2;have CH:=aa aC.out 3;have CI:=aa aC.out 4;have CJ:=aa aC.out 5;have CK:=aa aC.out 6;have CL:=aa aC.out 7;have CM:=aa aC.out 8;have aqF:=aa aC.out 9;have ah3:=aa aC.out 10;have ah4:=aa aC.out 11;have ah5:=aa aC.out 12)|(go_at_call 71;(with_reducible refine (gJ.calls k bI bU _ _ bL gG bW gH _ _ dO _ _ dP eP t225 _ ?bn ?bN ?cW ?fD ?gK ?gL ?nC A6.out).mono ?_);(case bn=>repeat (exact (Kd.bQ lQ.out dZ)));(case bN=>exact mF.out);(case cW=>repeat (exact (Kd.bQ uN.out dZ)));(case fD=>exact uO.out);(case gK=>repeat (exact (Kd.bQ uP.out dZ)));(case gL=>exact uQ.out);(case nC=>exact bq.below HG.out dZ);rintro e kI ⟨rfl,hb⟩;replace iZ:=ah.mk (Kd.bH Ck hb);replace aC:=ah.mk (aA nL hb);replace HB:=ah.mk (ay dZ hb);(try clear hb)))
    go_ret
    exact ⟨by rfl,aJ⟩
   ·rw [if_neg c5] at H
    have p8:=beq_eq_false_iff_ne.mpr c5
    have Mr:=bne_iff_ne.mpr c5
    obtain rfl:=Option.some.inj H
    go_enter Tryz.func58,Tryz.ntmps58
    go_wp2_with (first|((with_reducible refine bp (N:=1) rfl ?_);refine br ?hg (N:=1) ?hd (cs:=#[.int .u8 bg,.int .i64 bP,.int .i64 cE,.int .i64 bD,.int .i64 bI,.bool bU,.slice cV bL.length cU,.string gG,.string bW,.bool gH,.slice iD dO.length iE,.slice iF dP.length iG,.int .i64 eP]) (t:=46) ?hr ?_;(case hd=>rfl);(case hg=>rfl);(case hr=>(go_simp;done));intro bh hg LS bG hb;have aC:=ah.mk (bG);have El:=ah.mk ((bF:w.heap.size≤bh));have Em:=ah.mk ((bF:w.heap.size≤bh));replace HB:=ah.mk (ay aJ hb);clear hb bG hg;have Jm:LS.cell? ⟨bh,0,none⟩=some (.int .u8 bg):=(af aC.out 0).trans rfl;have Jn:LS.cell? ⟨bh,1,none⟩=some (.int .i64 bP):=(af aC.out 1).trans rfl;have PY:LS.cell? ⟨bh,2,none⟩=some (.int .i64 cE):=(af aC.out 2).trans rfl;have PZ:LS.cell? ⟨bh,3,none⟩=some (.int .i64 bD):=(af aC.out 3).trans rfl;have P4:LS.cell? ⟨bh,4,none⟩=some (.int .i64 bI):=(af aC.out 4).trans rfl;have P5:LS.cell? ⟨bh,5,none⟩=some (.bool bU):=(af aC.out 5).trans rfl;have P6:LS.cell? ⟨bh,6,none⟩=some (.slice cV bL.length cU):=(af aC.out 6).trans rfl;have P7:LS.cell? ⟨bh,7,none⟩=some (.string gG):=(af aC.out 7).trans rfl;have P8:LS.cell? ⟨bh,8,none⟩=some (.string bW):=(af aC.out 8).trans rfl;have aqG:LS.cell? ⟨bh,9,none⟩=some (.bool gH):=(af aC.out 9).trans rfl;have ah6:LS.cell? ⟨bh,10,none⟩=some (.slice iD dO.length iE):=(af aC.out 10).trans rfl;have ah7:LS.cell? ⟨bh,11,none⟩=some (.slice iF dP.length iG):=(af aC.out 11).trans rfl;have ah8:LS.cell? ⟨bh,12,none⟩=some (.int .i64 eP):=(af aC.out 12).trans rfl;have Jo:=aa aC.out 0;have Jp:=aa aC.out 1;have P9:=aa aC.out 2;have Qa:=aa aC.out 3;have Qb:=aa aC.out 4;have Qc:=aa aC.out 5;have Qd:=aa aC.out 6;have Qe:=aa aC.out 7;have Qf:=aa aC.out 8;have aqH:=aa aC.out 9;have ah9:=aa aC.out 10;have aia:=aa aC.out 11;have aib:=aa aC.out 12)|((with_reducible refine bp (N:=9) rfl ?_);refine Kd.mM (Kd.int .i64) _ 3 ?hg (N:=9) ?hd (xs:=([bP,cE,bD]:List Int)) (inner:=[.int .i64 bP,.int .i64 cE,.int .i64 bD]) (ok:=fun _ =>True) (pR:=fun _ =>True) ?hr ?hp (fun _ hk=>hk) trivial (Below.refl _ _) (Nat.le_refl _) cF ?_;(case hd=>rfl);(case hg=>rfl);(case hr=>(go_simp;done));(case hp=>exact (dJ.one (show Kd.M (Kd.int .i64) _ _ _ bP [.int .i64 bP] from rfl) (dJ.one (show Kd.M (Kd.int .i64) _ _ _ cE [.int .i64 cE] from rfl) (dJ.one (show Kd.M (Kd.int .i64) _ _ _ bD [.int .i64 bD] from rfl) (dJ.none _ _)))));intro v222 tD ad0 hb rz gS;clear rz gS;(rw [← BK.out] at ad0);have iZ:=ah.mk (Kd.dX ad0 (b7 aJ));replace aC:=ah.mk (aA nL hb);replace HB:=ah.mk (ay aJ hb);clear hb ad0;obtain ⟨UL,UM,ad1⟩:=Kd.dm iZ.out;subst ad1)|((with_reducible refine bK (f:=102) rfl ?_);refine dB (some 10) rfl rfl Tryz.func102 aq rfl #[.slice UL wu.length UM] rfl dK ?_;(with_reducible refine (cQ.calls k _ _ wu true _ ?bn ?bN A2.out).mono ?_);(case bn=>repeat (exact (Kd.ck iZ.out).2.2));(case bN=>exact (Kd.ck iZ.out).2.1);rintro e w' ⟨rfl,⟨nd,rfl⟩⟩;refine ⟨_,rfl,?_⟩;have Iz:tD.cell? ⟨bh,0,none⟩=some (.int .u8 bg):=(af aC.out 0).trans rfl;have IA:tD.cell? ⟨bh,1,none⟩=some (.int .i64 bP):=(af aC.out 1).trans rfl;have IB:tD.cell? ⟨bh,2,none⟩=some (.int .i64 cE):=(af aC.out 2).trans rfl;have IC:tD.cell? ⟨bh,3,none⟩=some (.int .i64 bD):=(af aC.out 3).trans rfl;have ID:tD.cell? ⟨bh,4,none⟩=some (.int .i64 bI):=(af aC.out 4).trans rfl;have IE:tD.cell? ⟨bh,5,none⟩=some (.bool bU):=(af aC.out 5).trans rfl;have IG:tD.cell? ⟨bh,6,none⟩=some (.slice cV bL.length cU):=(af aC.out 6).trans rfl;have II:tD.cell? ⟨bh,7,none⟩=some (.string gG):=(af aC.out 7).trans rfl;have IJ:tD.cell? ⟨bh,8,none⟩=some (.string bW):=(af aC.out 8).trans rfl;have aqI:tD.cell? ⟨bh,9,none⟩=some (.bool gH):=(af aC.out 9).trans rfl;have aic:tD.cell? ⟨bh,10,none⟩=some (.slice iD dO.length iE):=(af aC.out 10).trans rfl;have aid:tD.cell? ⟨bh,11,none⟩=some (.slice iF dP.length iG):=(af aC.out 11).trans rfl;have aie:tD.cell? ⟨bh,12,none⟩=some (.int .i64 eP):=(af aC.out 12).trans rfl;have IK:=aa aC.out 0;have IL:=aa aC.out 1;have IM:=aa aC.out 2;have IP:=aa aC.out 3;have IQ:=aa aC.out 4;have IU:=aa aC.out 5;have IV:=aa aC.out 6;have IW:=aa aC.out 7;have IX:=aa aC.out 8;have aqJ:=aa aC.out 9;have aif:=aa aC.out 10;have aih:=aa aC.out 11;have aii:=aa aC.out 12))
    go_ret
    exact ⟨by rfl,dZ⟩
  ·rw [if_neg c4] at H
   have mQ:=beq_eq_false_iff_ne.mpr c4
   have AE:=bne_iff_ne.mpr c4
   by_cases c20:bg=5
   ·rw [if_pos c20] at H
    have OC:=beq_iff_eq.mpr c20
    have OD:=bne_eq_false_iff_eq.mpr c20
    clear c20
    by_cases c21:(wrap64 (cE + bD))=0
    ·rw [if_pos c21] at H
     have abI:=beq_iff_eq.mpr c21
     have abJ:=bne_eq_false_iff_eq.mpr c21
     clear c21
     obtain ⟨t226,A22,H⟩:=bd_ H
     by_cases c23:t226=true
     ·subst c23
      rw [if_pos rfl] at H
      obtain rfl:=Option.some.inj H
      go_enter Tryz.func58,Tryz.ntmps58
      go_wp2_with (first|((with_reducible refine bp (N:=1) rfl ?_);refine br ?hg (N:=1) ?hd (cs:=#[.int .u8 bg,.int .i64 bP,.int .i64 cE,.int .i64 bD,.int .i64 bI,.bool bU,.slice cV bL.length cU,.string gG,.string bW,.bool gH,.slice iD dO.length iE,.slice iF dP.length iG,.int .i64 eP]) (t:=46) ?hr ?_;(case hd=>rfl);(case hg=>rfl);(case hr=>(go_simp;done));intro bh hg yP bG hb;have aC:=ah.mk (bG);have El:=ah.mk ((bF:w.heap.size≤bh));have Em:=ah.mk ((bF:w.heap.size≤bh));replace HB:=ah.mk (ay aJ hb);clear hb bG hg;have Dg:yP.cell? ⟨bh,0,none⟩=some (.int .u8 bg):=(af aC.out 0).trans rfl;have Dh:yP.cell? ⟨bh,1,none⟩=some (.int .i64 bP):=(af aC.out 1).trans rfl;have Di:yP.cell? ⟨bh,2,none⟩=some (.int .i64 cE):=(af aC.out 2).trans rfl;have Hq:yP.cell? ⟨bh,3,none⟩=some (.int .i64 bD):=(af aC.out 3).trans rfl;have Hr:yP.cell? ⟨bh,4,none⟩=some (.int .i64 bI):=(af aC.out 4).trans rfl;have Qg:yP.cell? ⟨bh,5,none⟩=some (.bool bU):=(af aC.out 5).trans rfl;have Qh:yP.cell? ⟨bh,6,none⟩=some (.slice cV bL.length cU):=(af aC.out 6).trans rfl;have Qi:yP.cell? ⟨bh,7,none⟩=some (.string gG):=(af aC.out 7).trans rfl;have Qj:yP.cell? ⟨bh,8,none⟩=some (.string bW):=(af aC.out 8).trans rfl;have aqK:yP.cell? ⟨bh,9,none⟩=some (.bool gH):=(af aC.out 9).trans rfl;have aij:yP.cell? ⟨bh,10,none⟩=some (.slice iD dO.length iE):=(af aC.out 10).trans rfl;have aik:yP.cell? ⟨bh,11,none⟩=some (.slice iF dP.length iG):=(af aC.out 11).trans rfl;have ail:yP.cell? ⟨bh,12,none⟩=some (.int .i64 eP):=(af aC.out 12).trans rfl;have Dj:=aa aC.out 0;have Dk:=aa aC.out 1;have Dl:=aa aC.out 2;have Hs:=aa aC.out 3;have Ht:=aa aC.out 4;have Qk:=aa aC.out 5;have Ql:=aa aC.out 6;have Qm:=aa aC.out 7;have Qn:=aa aC.out 8;have aqL:=aa aC.out 9;have aim:=aa aC.out 10;have ain:=aa aC.out 11;have aio:=aa aC.out 12)|((with_reducible refine bp (N:=9) rfl ?_);refine Kd.mM (Kd.int .i64) _ 3 ?hg (N:=9) ?hd (xs:=([bP,cE,bD]:List Int)) (inner:=[.int .i64 bP,.int .i64 cE,.int .i64 bD]) (ok:=fun _ =>True) (pR:=fun _ =>True) ?hr ?hp (fun _ hk=>hk) trivial (Below.refl _ _) (Nat.le_refl _) cF ?_;(case hd=>rfl);(case hg=>rfl);(case hr=>(go_simp;done));(case hp=>exact (dJ.one (show Kd.M (Kd.int .i64) _ _ _ bP [.int .i64 bP] from rfl) (dJ.one (show Kd.M (Kd.int .i64) _ _ _ cE [.int .i64 cE] from rfl) (dJ.one (show Kd.M (Kd.int .i64) _ _ _ bD [.int .i64 bD] from rfl) (dJ.none _ _)))));intro v222 LU ad4 hb rz gS;clear rz gS;(rw [← BK.out] at ad4);have iZ:=ah.mk (Kd.dX ad4 (b7 aJ));replace aC:=ah.mk (aA nL hb);replace HB:=ah.mk (ay aJ hb);clear hb ad4;obtain ⟨Zt,Zu,adC⟩:=Kd.dm iZ.out;subst adC)|((with_reducible refine bK (f:=102) rfl ?_);refine dB (some 10) rfl rfl Tryz.func102 aq rfl #[.slice Zt wu.length Zu] rfl dK ?_;(with_reducible refine (cQ.calls k _ _ wu true _ ?bn ?bN A2.out).mono ?_);(case bn=>repeat (exact (Kd.ck iZ.out).2.2));(case bN=>exact (Kd.ck iZ.out).2.1);rintro e w' ⟨rfl,⟨nd,rfl⟩⟩;refine ⟨_,rfl,?_⟩;have Wl:LU.cell? ⟨bh,0,none⟩=some (.int .u8 bg):=(af aC.out 0).trans rfl;have Wm:LU.cell? ⟨bh,1,none⟩=some (.int .i64 bP):=(af aC.out 1).trans rfl;have Wn:LU.cell? ⟨bh,2,none⟩=some (.int .i64 cE):=(af aC.out 2).trans rfl;have aqM:LU.cell? ⟨bh,3,none⟩=some (.int .i64 bD):=(af aC.out 3).trans rfl;have aqN:LU.cell? ⟨bh,4,none⟩=some (.int .i64 bI):=(af aC.out 4).trans rfl;have aqO:LU.cell? ⟨bh,5,none⟩=some (.bool bU):=(af aC.out 5).trans rfl;have aqP:LU.cell? ⟨bh,6,none⟩=some (.slice cV bL.length cU):=(af aC.out 6).trans rfl;have aqQ:LU.cell? ⟨bh,7,none⟩=some (.string gG):=(af aC.out 7).trans rfl;have aqR:LU.cell? ⟨bh,8,none⟩=some (.string bW):=(af aC.out 8).trans rfl;have aqS:LU.cell? ⟨bh,9,none⟩=some (.bool gH):=(af aC.out 9).trans rfl;have aip:LU.cell? ⟨bh,10,none⟩=some (.slice iD dO.length iE):=(af aC.out 10).trans rfl;have aiq:LU.cell? ⟨bh,11,none⟩=some (.slice iF dP.length iG):=(af aC.out 11).trans rfl;have air:LU.cell? ⟨bh,12,none⟩=some (.int .i64 eP):=(af aC.out 12).trans rfl;have Wo:=aa aC.out 0;have Wp:=aa aC.out 1;have Wq:=aa aC.out 2;have aqT:=aa aC.out 3;have aqU:=aa aC.out 4;have aqV:=aa aC.out 5;have aqW:=aa aC.out 6;have aqX:=aa aC.out 7;have aqY:=aa aC.out 8;have aqZ:=aa aC.out 9;have ais:=aa aC.out 10;have ait:=aa aC.out 11;have aiu:=aa aC.out 12)|(go_at_call 63;(with_reducible refine (dc.calls bI bU _ _ bL gG bW gH _ _ dO _ _ dP eP true _ ?bn ?bN ?cW ?fD ?gK ?gL A22.out).mono ?_);(case bn=>repeat (exact (Kd.bQ lQ.out dZ)));(case bN=>exact mF.out);(case cW=>repeat (exact (Kd.bQ uN.out dZ)));(case fD=>exact uO.out);(case gK=>repeat (exact (Kd.bQ uP.out dZ)));(case gL=>exact uQ.out);rintro e w30 ⟨rfl,hb⟩;replace iZ:=ah.mk (Kd.bH Ck hb);replace aC:=ah.mk (aA nL hb);replace HB:=ah.mk (ay dZ hb);(try clear hb)))
      go_ret
      exact ⟨by rfl,aJ⟩
     ·replace c23:=Bool.eq_false_iff.mpr c23
      subst c23
      rw [if_neg (show ¬ (false=true) by decide)] at H
      obtain ⟨t227,A31,H⟩:=bd_ H
      obtain rfl:=Option.some.inj H
      go_enter Tryz.func58,Tryz.ntmps58
      go_wp2_with (first|((with_reducible refine bp (N:=1) rfl ?_);refine br ?hg (N:=1) ?hd (cs:=#[.int .u8 bg,.int .i64 bP,.int .i64 cE,.int .i64 bD,.int .i64 bI,.bool bU,.slice cV bL.length cU,.string gG,.string bW,.bool gH,.slice iD dO.length iE,.slice iF dP.length iG,.int .i64 eP]) (t:=46) ?hr ?_;(case hd=>rfl);(case hg=>rfl);(case hr=>(go_simp;done));intro bh hg xL bG hb;have aC:=ah.mk (bG);have El:=ah.mk ((bF:w.heap.size≤bh));have Em:=ah.mk ((bF:w.heap.size≤bh));replace HB:=ah.mk (ay aJ hb);clear hb bG hg;have XB:xL.cell? ⟨bh,0,none⟩=some (.int .u8 bg):=(af aC.out 0).trans rfl;have XC:xL.cell? ⟨bh,1,none⟩=some (.int .i64 bP):=(af aC.out 1).trans rfl;have XD:xL.cell? ⟨bh,2,none⟩=some (.int .i64 cE):=(af aC.out 2).trans rfl;have XE:xL.cell? ⟨bh,3,none⟩=some (.int .i64 bD):=(af aC.out 3).trans rfl;have XF:xL.cell? ⟨bh,4,none⟩=some (.int .i64 bI):=(af aC.out 4).trans rfl;have XG:xL.cell? ⟨bh,5,none⟩=some (.bool bU):=(af aC.out 5).trans rfl;have XH:xL.cell? ⟨bh,6,none⟩=some (.slice cV bL.length cU):=(af aC.out 6).trans rfl;have XI:xL.cell? ⟨bh,7,none⟩=some (.string gG):=(af aC.out 7).trans rfl;have XJ:xL.cell? ⟨bh,8,none⟩=some (.string bW):=(af aC.out 8).trans rfl;have aq0:xL.cell? ⟨bh,9,none⟩=some (.bool gH):=(af aC.out 9).trans rfl;have aiv:xL.cell? ⟨bh,10,none⟩=some (.slice iD dO.length iE):=(af aC.out 10).trans rfl;have aiw:xL.cell? ⟨bh,11,none⟩=some (.slice iF dP.length iG):=(af aC.out 11).trans rfl;have aix:xL.cell? ⟨bh,12,none⟩=some (.int .i64 eP):=(af aC.out 12).trans rfl;have XK:=aa aC.out 0;have XL:=aa aC.out 1;have XM:=aa aC.out 2;have XN:=aa aC.out 3;have XO:=aa aC.out 4;have XP:=aa aC.out 5;have XQ:=aa aC.out 6;have XR:=aa aC.out 7;have XS:=aa aC.out 8;have aq1:=aa aC.out 9;have aiy:=aa aC.out 10;have aiz:=aa aC.out 11;have aiA:=aa aC.out 12)|((with_reducible refine bp (N:=9) rfl ?_);refine Kd.mM (Kd.int .i64) _ 3 ?hg (N:=9) ?hd (xs:=([bP,cE,bD]:List Int)) (inner:=[.int .i64 bP,.int .i64 cE,.int .i64 bD]) (ok:=fun _ =>True) (pR:=fun _ =>True) ?hr ?hp (fun _ hk=>hk) trivial (Below.refl _ _) (Nat.le_refl _) cF ?_;(case hd=>rfl);(case hg=>rfl);(case hr=>(go_simp;done));(case hp=>exact (dJ.one (show Kd.M (Kd.int .i64) _ _ _ bP [.int .i64 bP] from rfl) (dJ.one (show Kd.M (Kd.int .i64) _ _ _ cE [.int .i64 cE] from rfl) (dJ.one (show Kd.M (Kd.int .i64) _ _ _ bD [.int .i64 bD] from rfl) (dJ.none _ _)))));intro v222 Dm MH hb rz gS;clear rz gS;(rw [← BK.out] at MH);have iZ:=ah.mk (Kd.dX MH (b7 aJ));replace aC:=ah.mk (aA nL hb);replace HB:=ah.mk (ay aJ hb);clear hb MH;obtain ⟨Im,Io,Uu⟩:=Kd.dm iZ.out;subst Uu)|((with_reducible refine bK (f:=102) rfl ?_);refine dB (some 10) rfl rfl Tryz.func102 aq rfl #[.slice Im wu.length Io] rfl dK ?_;(with_reducible refine (cQ.calls k _ _ wu true _ ?bn ?bN A2.out).mono ?_);(case bn=>repeat (exact (Kd.ck iZ.out).2.2));(case bN=>exact (Kd.ck iZ.out).2.1);rintro e w' ⟨rfl,⟨nd,rfl⟩⟩;refine ⟨_,rfl,?_⟩;have Hh:Dm.cell? ⟨bh,0,none⟩=some (.int .u8 bg):=(af aC.out 0).trans rfl;have Hi:Dm.cell? ⟨bh,1,none⟩=some (.int .i64 bP):=(af aC.out 1).trans rfl;have Hj:Dm.cell? ⟨bh,2,none⟩=some (.int .i64 cE):=(af aC.out 2).trans rfl;have OE:Dm.cell? ⟨bh,3,none⟩=some (.int .i64 bD):=(af aC.out 3).trans rfl;have OG:Dm.cell? ⟨bh,4,none⟩=some (.int .i64 bI):=(af aC.out 4).trans rfl;have OH:Dm.cell? ⟨bh,5,none⟩=some (.bool bU):=(af aC.out 5).trans rfl;have OI:Dm.cell? ⟨bh,6,none⟩=some (.slice cV bL.length cU):=(af aC.out 6).trans rfl;have OJ:Dm.cell? ⟨bh,7,none⟩=some (.string gG):=(af aC.out 7).trans rfl;have OL:Dm.cell? ⟨bh,8,none⟩=some (.string bW):=(af aC.out 8).trans rfl;have aq2:Dm.cell? ⟨bh,9,none⟩=some (.bool gH):=(af aC.out 9).trans rfl;have aiB:Dm.cell? ⟨bh,10,none⟩=some (.slice iD dO.length iE):=(af aC.out 10).trans rfl;have aiC:Dm.cell? ⟨bh,11,none⟩=some (.slice iF dP.length iG):=(af aC.out 11).trans rfl;have aiD:Dm.cell? ⟨bh,12,none⟩=some (.int .i64 eP):=(af aC.out 12).trans rfl;have Hl:=aa aC.out 0;have Ho:=aa aC.out 1;have Hp:=aa aC.out 2;have OM:=aa aC.out 3;have OO:=aa aC.out 4;have OP:=aa aC.out 5;have OQ:=aa aC.out 6;have OS:=aa aC.out 7;have OT:=aa aC.out 8;have aq3:=aa aC.out 9;have aiE:=aa aC.out 10;have aiF:=aa aC.out 11;have aiG:=aa aC.out 12)|(go_at_call 63;(with_reducible refine (dc.calls bI bU _ _ bL gG bW gH _ _ dO _ _ dP eP false _ ?bn ?bN ?cW ?fD ?gK ?gL A22.out).mono ?_);(case bn=>repeat (exact (Kd.bQ lQ.out dZ)));(case bN=>exact mF.out);(case cW=>repeat (exact (Kd.bQ uN.out dZ)));(case fD=>exact uO.out);(case gK=>repeat (exact (Kd.bQ uP.out dZ)));(case gL=>exact uQ.out);rintro e sQ ⟨rfl,hb⟩;replace iZ:=ah.mk (Kd.bH Ck hb);replace aC:=ah.mk (aA nL hb);replace HB:=ah.mk (ay dZ hb);(try clear hb);have Ow:sQ.cell? ⟨bh,0,none⟩=some (.int .u8 bg):=(af aC.out 0).trans rfl;have Ox:sQ.cell? ⟨bh,1,none⟩=some (.int .i64 bP):=(af aC.out 1).trans rfl;have Oy:sQ.cell? ⟨bh,2,none⟩=some (.int .i64 cE):=(af aC.out 2).trans rfl;have XT:sQ.cell? ⟨bh,3,none⟩=some (.int .i64 bD):=(af aC.out 3).trans rfl;have XU:sQ.cell? ⟨bh,4,none⟩=some (.int .i64 bI):=(af aC.out 4).trans rfl;have XV:sQ.cell? ⟨bh,5,none⟩=some (.bool bU):=(af aC.out 5).trans rfl;have XW:sQ.cell? ⟨bh,6,none⟩=some (.slice cV bL.length cU):=(af aC.out 6).trans rfl;have XX:sQ.cell? ⟨bh,7,none⟩=some (.string gG):=(af aC.out 7).trans rfl;have XY:sQ.cell? ⟨bh,8,none⟩=some (.string bW):=(af aC.out 8).trans rfl;have aq4:sQ.cell? ⟨bh,9,none⟩=some (.bool gH):=(af aC.out 9).trans rfl;have aiH:sQ.cell? ⟨bh,10,none⟩=some (.slice iD dO.length iE):=(af aC.out 10).trans rfl;have aiI:sQ.cell? ⟨bh,11,none⟩=some (.slice iF dP.length iG):=(af aC.out 11).trans rfl;have aiJ:sQ.cell? ⟨bh,12,none⟩=some (.int .i64 eP):=(af aC.out 12).trans rfl;have Oz:=aa aC.out 0;have OA:=aa aC.out 1;have OB:=aa aC.out 2;have XZ:=aa aC.out 3;have X0:=aa aC.out 4;have X3:=aa aC.out 5;have X4:=aa aC.out 6;have X5:=aa aC.out 7;have X6:=aa aC.out 8;have aq5:=aa aC.out 9;have aiK:=aa aC.out 10;have aiL:=aa aC.out 11;have aiM:=aa aC.out 12)|(go_at_call 71;(with_reducible refine (gJ.calls k bI bU _ _ bL gG bW gH _ _ dO _ _ dP eP t227 _ ?bn ?bN ?cW ?fD ?gK ?gL ?nC A31.out).mono ?_);(case bn=>repeat (exact (Kd.bQ lQ.out HB.out)));(case bN=>exact mF.out);(case cW=>repeat (exact (Kd.bQ uN.out HB.out)));(case fD=>exact uO.out);(case gK=>repeat (exact (Kd.bQ uP.out HB.out)));(case gL=>exact uQ.out);(case nC=>exact bq.below HG.out aJ);rintro e w40 ⟨rfl,hb⟩;replace iZ:=ah.mk (Kd.bH (by exact iZ.out) hb);replace aC:=ah.mk (aA nL hb);replace HB:=ah.mk (ay aJ hb);(try clear hb)))
      go_ret
      exact ⟨by rfl,aJ⟩
    ·rw [if_neg c21] at H
     have abI:=beq_eq_false_iff_ne.mpr c21
     have abJ:=bne_iff_ne.mpr c21
     obtain rfl:=Option.some.inj H
     go_enter Tryz.func58,Tryz.ntmps58
     go_wp2_with (first|((with_reducible refine bp (N:=1) rfl ?_);refine br ?hg (N:=1) ?hd (cs:=#[.int .u8 bg,.int .i64 bP,.int .i64 cE,.int .i64 bD,.int .i64 bI,.bool bU,.slice cV bL.length cU,.string gG,.string bW,.bool gH,.slice iD dO.length iE,.slice iF dP.length iG,.int .i64 eP]) (t:=46) ?hr ?_;(case hd=>rfl);(case hg=>rfl);(case hr=>(go_simp;done));intro bh hg Ec bG hb;have aC:=ah.mk (bG);have El:=ah.mk ((bF:w.heap.size≤bh));have Em:=ah.mk ((bF:w.heap.size≤bh));replace HB:=ah.mk (ay aJ hb);clear hb bG hg;have X7:Ec.cell? ⟨bh,0,none⟩=some (.int .u8 bg):=(af aC.out 0).trans rfl;have X8:Ec.cell? ⟨bh,1,none⟩=some (.int .i64 bP):=(af aC.out 1).trans rfl;have X9:Ec.cell? ⟨bh,2,none⟩=some (.int .i64 cE):=(af aC.out 2).trans rfl;have Ya:Ec.cell? ⟨bh,3,none⟩=some (.int .i64 bD):=(af aC.out 3).trans rfl;have Yb:Ec.cell? ⟨bh,4,none⟩=some (.int .i64 bI):=(af aC.out 4).trans rfl;have Yc:Ec.cell? ⟨bh,5,none⟩=some (.bool bU):=(af aC.out 5).trans rfl;have Yd:Ec.cell? ⟨bh,6,none⟩=some (.slice cV bL.length cU):=(af aC.out 6).trans rfl;have Ye:Ec.cell? ⟨bh,7,none⟩=some (.string gG):=(af aC.out 7).trans rfl;have Yf:Ec.cell? ⟨bh,8,none⟩=some (.string bW):=(af aC.out 8).trans rfl;have aq6:Ec.cell? ⟨bh,9,none⟩=some (.bool gH):=(af aC.out 9).trans rfl;have aiN:Ec.cell? ⟨bh,10,none⟩=some (.slice iD dO.length iE):=(af aC.out 10).trans rfl;have aiO:Ec.cell? ⟨bh,11,none⟩=some (.slice iF dP.length iG):=(af aC.out 11).trans rfl;have aiP:Ec.cell? ⟨bh,12,none⟩=some (.int .i64 eP):=(af aC.out 12).trans rfl;have Yg:=aa aC.out 0;have Yh:=aa aC.out 1;have Yi:=aa aC.out 2;have Yj:=aa aC.out 3;have Yk:=aa aC.out 4;have Yl:=aa aC.out 5;have Ym:=aa aC.out 6;have Yn:=aa aC.out 7;have Yo:=aa aC.out 8;have aq7:=aa aC.out 9;have aiQ:=aa aC.out 10;have aiR:=aa aC.out 11;have aiS:=aa aC.out 12)|((with_reducible refine bp (N:=9) rfl ?_);refine Kd.mM (Kd.int .i64) _ 3 ?hg (N:=9) ?hd (xs:=([bP,cE,bD]:List Int)) (inner:=[.int .i64 bP,.int .i64 cE,.int .i64 bD]) (ok:=fun _ =>True) (pR:=fun _ =>True) ?hr ?hp (fun _ hk=>hk) trivial (Below.refl _ _) (Nat.le_refl _) cF ?_;(case hd=>rfl);(case hg=>rfl);(case hr=>(go_simp;done));(case hp=>exact (dJ.one (show Kd.M (Kd.int .i64) _ _ _ bP [.int .i64 bP] from rfl) (dJ.one (show Kd.M (Kd.int .i64) _ _ _ cE [.int .i64 cE] from rfl) (dJ.one (show Kd.M (Kd.int .i64) _ _ _ bD [.int .i64 bD] from rfl) (dJ.none _ _)))));intro v222 rA MI hb rz gS;clear rz gS;(rw [← BK.out] at MI);have iZ:=ah.mk (Kd.dX MI (b7 aJ));replace aC:=ah.mk (aA nL hb);replace HB:=ah.mk (ay aJ hb);clear hb MI;obtain ⟨afO,afP,adk⟩:=Kd.dm iZ.out;subst adk)|((with_reducible refine bK (f:=102) rfl ?_);refine dB (some 10) rfl rfl Tryz.func102 aq rfl #[.slice afO wu.length afP] rfl dK ?_;(with_reducible refine (cQ.calls k _ _ wu true _ ?bn ?bN A2.out).mono ?_);(case bn=>repeat (exact (Kd.ck iZ.out).2.2));(case bN=>exact (Kd.ck iZ.out).2.1);rintro e w' ⟨rfl,⟨nd,rfl⟩⟩;refine ⟨_,rfl,?_⟩;have OU:rA.cell? ⟨bh,0,none⟩=some (.int .u8 bg):=(af aC.out 0).trans rfl;have OV:rA.cell? ⟨bh,1,none⟩=some (.int .i64 bP):=(af aC.out 1).trans rfl;have OX:rA.cell? ⟨bh,2,none⟩=some (.int .i64 cE):=(af aC.out 2).trans rfl;have OY:rA.cell? ⟨bh,3,none⟩=some (.int .i64 bD):=(af aC.out 3).trans rfl;have OZ:rA.cell? ⟨bh,4,none⟩=some (.int .i64 bI):=(af aC.out 4).trans rfl;have O0:rA.cell? ⟨bh,5,none⟩=some (.bool bU):=(af aC.out 5).trans rfl;have O1:rA.cell? ⟨bh,6,none⟩=some (.slice cV bL.length cU):=(af aC.out 6).trans rfl;have O2:rA.cell? ⟨bh,7,none⟩=some (.string gG):=(af aC.out 7).trans rfl;have O3:rA.cell? ⟨bh,8,none⟩=some (.string bW):=(af aC.out 8).trans rfl;have aq8:rA.cell? ⟨bh,9,none⟩=some (.bool gH):=(af aC.out 9).trans rfl;have aiT:rA.cell? ⟨bh,10,none⟩=some (.slice iD dO.length iE):=(af aC.out 10).trans rfl;have aiU:rA.cell? ⟨bh,11,none⟩=some (.slice iF dP.length iG):=(af aC.out 11).trans rfl;have aiV:rA.cell? ⟨bh,12,none⟩=some (.int .i64 eP):=(af aC.out 12).trans rfl;have O4:=aa aC.out 0;have O5:=aa aC.out 1;have O6:=aa aC.out 2;have O7:=aa aC.out 3;have O8:=aa aC.out 4;have O9:=aa aC.out 5;have Pb:=aa aC.out 6;have Pc:=aa aC.out 7;have Pd:=aa aC.out 8;have aq9:=aa aC.out 9;have aiW:=aa aC.out 10;have aiX:=aa aC.out 11;have aiY:=aa aC.out 12))
     go_ret
     exact ⟨by rfl,dZ⟩
   ·rw [if_neg c20] at H
    have OC:=beq_eq_false_iff_ne.mpr c20
    have OD:=bne_iff_ne.mpr c20
    by_cases c47:bg=2
    ·rw [if_pos c47] at H
     have aiZ:=beq_iff_eq.mpr c47
     have ai0:=bne_eq_false_iff_eq.mpr c47
     clear c47
     obtain ⟨t228,A48,H⟩:=bd_ H
     obtain rfl:=Option.some.inj H
     go_enter Tryz.func58,Tryz.ntmps58
     go_wp2_with (first|((with_reducible refine bp (N:=1) rfl ?_);refine br ?hg (N:=1) ?hd (cs:=#[.int .u8 bg,.int .i64 bP,.int .i64 cE,.int .i64 bD,.int .i64 bI,.bool bU,.slice cV bL.length cU,.string gG,.string bW,.bool gH,.slice iD dO.length iE,.slice iF dP.length iG,.int .i64 eP]) (t:=46) ?hr ?_;(case hd=>rfl);(case hg=>rfl);(case hr=>(go_simp;done));intro bh hg Ed bG hb;have aC:=ah.mk (bG);have El:=ah.mk ((bF:w.heap.size≤bh));have Em:=ah.mk ((bF:w.heap.size≤bh));replace HB:=ah.mk (ay aJ hb);clear hb bG hg;have Yv:Ed.cell? ⟨bh,0,none⟩=some (.int .u8 bg):=(af aC.out 0).trans rfl;have Yw:Ed.cell? ⟨bh,1,none⟩=some (.int .i64 bP):=(af aC.out 1).trans rfl;have Yx:Ed.cell? ⟨bh,2,none⟩=some (.int .i64 cE):=(af aC.out 2).trans rfl;have Yy:Ed.cell? ⟨bh,3,none⟩=some (.int .i64 bD):=(af aC.out 3).trans rfl;have Yz:Ed.cell? ⟨bh,4,none⟩=some (.int .i64 bI):=(af aC.out 4).trans rfl;have YA:Ed.cell? ⟨bh,5,none⟩=some (.bool bU):=(af aC.out 5).trans rfl;have YB:Ed.cell? ⟨bh,6,none⟩=some (.slice cV bL.length cU):=(af aC.out 6).trans rfl;have YC:Ed.cell? ⟨bh,7,none⟩=some (.string gG):=(af aC.out 7).trans rfl;have YD:Ed.cell? ⟨bh,8,none⟩=some (.string bW):=(af aC.out 8).trans rfl;have ara:Ed.cell? ⟨bh,9,none⟩=some (.bool gH):=(af aC.out 9).trans rfl;have ai1:Ed.cell? ⟨bh,10,none⟩=some (.slice iD dO.length iE):=(af aC.out 10).trans rfl;have ai2:Ed.cell? ⟨bh,11,none⟩=some (.slice iF dP.length iG):=(af aC.out 11).trans rfl;have ai3:Ed.cell? ⟨bh,12,none⟩=some (.int .i64 eP):=(af aC.out 12).trans rfl;have YE:=aa aC.out 0;have YF:=aa aC.out 1;have YG:=aa aC.out 2;have YH:=aa aC.out 3;have YI:=aa aC.out 4;have YJ:=aa aC.out 5;have YK:=aa aC.out 6;have YL:=aa aC.out 7;have YM:=aa aC.out 8;have arb:=aa aC.out 9;have ai4:=aa aC.out 10;have ai5:=aa aC.out 11;have ai6:=aa aC.out 12)|((with_reducible refine bp (N:=9) rfl ?_);refine Kd.mM (Kd.int .i64) _ 3 ?hg (N:=9) ?hd (xs:=([bP,cE,bD]:List Int)) (inner:=[.int .i64 bP,.int .i64 cE,.int .i64 bD]) (ok:=fun _ =>True) (pR:=fun _ =>True) ?hr ?hp (fun _ hk=>hk) trivial (Below.refl _ _) (Nat.le_refl _) cF ?_;(case hd=>rfl);(case hg=>rfl);(case hr=>(go_simp;done));(case hp=>exact (dJ.one (show Kd.M (Kd.int .i64) _ _ _ bP [.int .i64 bP] from rfl) (dJ.one (show Kd.M (Kd.int .i64) _ _ _ cE [.int .i64 cE] from rfl) (dJ.one (show Kd.M (Kd.int .i64) _ _ _ bD [.int .i64 bD] from rfl) (dJ.none _ _)))));intro v222 Ai MJ hb rz gS;clear rz gS;(rw [← BK.out] at MJ);have iZ:=ah.mk (Kd.dX MJ (b7 aJ));replace aC:=ah.mk (aA nL hb);replace HB:=ah.mk (ay aJ hb);clear hb MJ;obtain ⟨afQ,afR,adl⟩:=Kd.dm iZ.out;subst adl)|((with_reducible refine bK (f:=102) rfl ?_);refine dB (some 10) rfl rfl Tryz.func102 aq rfl #[.slice afQ wu.length afR] rfl dK ?_;(with_reducible refine (cQ.calls k _ _ wu true _ ?bn ?bN A2.out).mono ?_);(case bn=>repeat (exact (Kd.ck iZ.out).2.2));(case bN=>exact (Kd.ck iZ.out).2.1);rintro e w' ⟨rfl,⟨nd,rfl⟩⟩;refine ⟨_,rfl,?_⟩;have Pe:Ai.cell? ⟨bh,0,none⟩=some (.int .u8 bg):=(af aC.out 0).trans rfl;have Pf:Ai.cell? ⟨bh,1,none⟩=some (.int .i64 bP):=(af aC.out 1).trans rfl;have YN:Ai.cell? ⟨bh,2,none⟩=some (.int .i64 cE):=(af aC.out 2).trans rfl;have YO:Ai.cell? ⟨bh,3,none⟩=some (.int .i64 bD):=(af aC.out 3).trans rfl;have YP:Ai.cell? ⟨bh,4,none⟩=some (.int .i64 bI):=(af aC.out 4).trans rfl;have YQ:Ai.cell? ⟨bh,5,none⟩=some (.bool bU):=(af aC.out 5).trans rfl;have YR:Ai.cell? ⟨bh,6,none⟩=some (.slice cV bL.length cU):=(af aC.out 6).trans rfl;have YS:Ai.cell? ⟨bh,7,none⟩=some (.string gG):=(af aC.out 7).trans rfl;have YT:Ai.cell? ⟨bh,8,none⟩=some (.string bW):=(af aC.out 8).trans rfl;have arc:Ai.cell? ⟨bh,9,none⟩=some (.bool gH):=(af aC.out 9).trans rfl;have ai7:Ai.cell? ⟨bh,10,none⟩=some (.slice iD dO.length iE):=(af aC.out 10).trans rfl;have ai8:Ai.cell? ⟨bh,11,none⟩=some (.slice iF dP.length iG):=(af aC.out 11).trans rfl;have ai9:Ai.cell? ⟨bh,12,none⟩=some (.int .i64 eP):=(af aC.out 12).trans rfl;have Pg:=aa aC.out 0;have Ph:=aa aC.out 1;have YU:=aa aC.out 2;have YV:=aa aC.out 3;have YW:=aa aC.out 4;have YX:=aa aC.out 5;have YY:=aa aC.out 6;have YZ:=aa aC.out 7;have Y0:=aa aC.out 8;have ard:=aa aC.out 9;have aja:=aa aC.out 10;have ajb:=aa aC.out 11;have ajc:=aa aC.out 12)|((with_reducible refine bK (f:=63) rfl ?_);refine dB (some 52) rfl rfl Tryz.func63 aq rfl #[.agg #[.int .i64 bI,.bool bU,.slice cV bL.length cU,.string gG,.string bW,.bool gH,.slice iD dO.length iE,.slice iF dP.length iG,.int .i64 eP]] rfl dK ?_;(with_reducible refine (dc.calls bI bU _ _ bL gG bW gH _ _ dO _ _ dP eP t228 _ ?bn ?bN ?cW ?fD ?gK ?gL A48.out).mono ?_);(case bn=>repeat (exact (Kd.bQ lQ.out dZ)));(case bN=>exact mF.out);(case cW=>repeat (exact (Kd.bQ uN.out dZ)));(case fD=>exact uO.out);(case gK=>repeat (exact (Kd.bQ uP.out dZ)));(case gL=>exact uQ.out);rintro e Vt ⟨rfl,hb⟩;refine ⟨_,rfl,?_⟩;replace iZ:=ah.mk (Kd.bH Ck hb);replace aC:=ah.mk (aA nL hb);replace HB:=ah.mk (ay dZ hb);(try clear hb)))
     go_ret
     exact ⟨by rfl,aJ⟩
    ·rw [if_neg c47] at H
     have aiZ:=beq_eq_false_iff_ne.mpr c47
     have ai0:=bne_iff_ne.mpr c47
     have ad6:=ah.mk H
     clear H
     go_enter Tryz.func58,Tryz.ntmps58
     go_upto_if 53 with (first|((with_reducible refine bp (N:=1) rfl ?_);refine br ?hg (N:=1) ?hd (cs:=#[.int .u8 bg,.int .i64 bP,.int .i64 cE,.int .i64 bD,.int .i64 bI,.bool bU,.slice cV bL.length cU,.string gG,.string bW,.bool gH,.slice iD dO.length iE,.slice iF dP.length iG,.int .i64 eP]) (t:=46) ?hr ?_;(case hd=>rfl);(case hg=>rfl);(case hr=>(go_simp;done));intro bh hg Qo bG hb;have aC:=ah.mk (bG);have El:=ah.mk ((bF:w.heap.size≤bh));have Em:=ah.mk ((bF:w.heap.size≤bh));replace HB:=ah.mk (ay aJ hb);clear hb bG hg;have arf:Qo.cell? ⟨bh,0,none⟩=some (.int .u8 bg):=(af aC.out 0).trans rfl;have arh:Qo.cell? ⟨bh,1,none⟩=some (.int .i64 bP):=(af aC.out 1).trans rfl;have ari:Qo.cell? ⟨bh,2,none⟩=some (.int .i64 cE):=(af aC.out 2).trans rfl;have arj:Qo.cell? ⟨bh,3,none⟩=some (.int .i64 bD):=(af aC.out 3).trans rfl;have ark:Qo.cell? ⟨bh,4,none⟩=some (.int .i64 bI):=(af aC.out 4).trans rfl;have arl:Qo.cell? ⟨bh,5,none⟩=some (.bool bU):=(af aC.out 5).trans rfl;have arn:Qo.cell? ⟨bh,6,none⟩=some (.slice cV bL.length cU):=(af aC.out 6).trans rfl;have aro:Qo.cell? ⟨bh,7,none⟩=some (.string gG):=(af aC.out 7).trans rfl;have arp:Qo.cell? ⟨bh,8,none⟩=some (.string bW):=(af aC.out 8).trans rfl;have arq:Qo.cell? ⟨bh,9,none⟩=some (.bool gH):=(af aC.out 9).trans rfl;have ajd:Qo.cell? ⟨bh,10,none⟩=some (.slice iD dO.length iE):=(af aC.out 10).trans rfl;have aje:Qo.cell? ⟨bh,11,none⟩=some (.slice iF dP.length iG):=(af aC.out 11).trans rfl;have ajf:Qo.cell? ⟨bh,12,none⟩=some (.int .i64 eP):=(af aC.out 12).trans rfl;have ars:=aa aC.out 0;have art:=aa aC.out 1;have aru:=aa aC.out 2;have arv:=aa aC.out 3;have arw:=aa aC.out 4;have arx:=aa aC.out 5;have ary:=aa aC.out 6;have arz:=aa aC.out 7;have arA:=aa aC.out 8;have arB:=aa aC.out 9;have ajg:=aa aC.out 10;have ajh:=aa aC.out 11;have aji:=aa aC.out 12)|((with_reducible refine bp (N:=9) rfl ?_);refine Kd.mM (Kd.int .i64) _ 3 ?hg (N:=9) ?hd (xs:=([bP,cE,bD]:List Int)) (inner:=[.int .i64 bP,.int .i64 cE,.int .i64 bD]) (ok:=fun _ =>True) (pR:=fun _ =>True) ?hr ?hp (fun _ hk=>hk) trivial (Below.refl _ _) (Nat.le_refl _) cF ?_;(case hd=>rfl);(case hg=>rfl);(case hr=>(go_simp;done));(case hp=>exact (dJ.one (show Kd.M (Kd.int .i64) _ _ _ bP [.int .i64 bP] from rfl) (dJ.one (show Kd.M (Kd.int .i64) _ _ _ cE [.int .i64 cE] from rfl) (dJ.one (show Kd.M (Kd.int .i64) _ _ _ bD [.int .i64 bD] from rfl) (dJ.none _ _)))));intro v222 RU ad7 hb rz gS;clear rz gS;(rw [← BK.out] at ad7);have iZ:=ah.mk (Kd.dX ad7 (b7 aJ));replace aC:=ah.mk (aA nL hb);replace HB:=ah.mk (ay aJ hb);clear hb ad7;obtain ⟨ayC,ayD,ayE⟩:=Kd.dm iZ.out;subst ayE)|((with_reducible refine bK (f:=102) rfl ?_);refine dB (some 10) rfl rfl Tryz.func102 aq rfl #[.slice ayC wu.length ayD] rfl dK ?_;(with_reducible refine (cQ.calls k _ _ wu true _ ?bn ?bN A2.out).mono ?_);(case bn=>repeat (exact (Kd.ck iZ.out).2.2));(case bN=>exact (Kd.ck iZ.out).2.1);rintro e w' ⟨rfl,⟨nd,rfl⟩⟩;refine ⟨_,rfl,?_⟩;have ZC:RU.cell? ⟨bh,0,none⟩=some (.int .u8 bg):=(af aC.out 0).trans rfl;have ZE:RU.cell? ⟨bh,1,none⟩=some (.int .i64 bP):=(af aC.out 1).trans rfl;have arC:RU.cell? ⟨bh,2,none⟩=some (.int .i64 cE):=(af aC.out 2).trans rfl;have arD:RU.cell? ⟨bh,3,none⟩=some (.int .i64 bD):=(af aC.out 3).trans rfl;have arE:RU.cell? ⟨bh,4,none⟩=some (.int .i64 bI):=(af aC.out 4).trans rfl;have arF:RU.cell? ⟨bh,5,none⟩=some (.bool bU):=(af aC.out 5).trans rfl;have arG:RU.cell? ⟨bh,6,none⟩=some (.slice cV bL.length cU):=(af aC.out 6).trans rfl;have arH:RU.cell? ⟨bh,7,none⟩=some (.string gG):=(af aC.out 7).trans rfl;have arI:RU.cell? ⟨bh,8,none⟩=some (.string bW):=(af aC.out 8).trans rfl;have arJ:RU.cell? ⟨bh,9,none⟩=some (.bool gH):=(af aC.out 9).trans rfl;have ajj:RU.cell? ⟨bh,10,none⟩=some (.slice iD dO.length iE):=(af aC.out 10).trans rfl;have ajk:RU.cell? ⟨bh,11,none⟩=some (.slice iF dP.length iG):=(af aC.out 11).trans rfl;have ajl:RU.cell? ⟨bh,12,none⟩=some (.int .i64 eP):=(af aC.out 12).trans rfl;have ZF:=aa aC.out 0;have ZG:=aa aC.out 1;have arK:=aa aC.out 2;have arL:=aa aC.out 3;have arM:=aa aC.out 4;have arN:=aa aC.out 5;have arO:=aa aC.out 6;have arP:=aa aC.out 7;have arQ:=aa aC.out 8;have arR:=aa aC.out 9;have ajm:=aa aC.out 10;have ajn:=aa aC.out 11;have ajo:=aa aC.out 12))
     go_cut [53] (fun v53 wc=>∃ (kq:Nat) (Jq:Bool),v53= .bool Jq∧ah (cK.j0 kq bg Jq bg bP cE bD bI bU bL gG bW gH dO dP eP=some r)∧ah (kq≤k)∧ah (wc.heap[bh]? =some (.cells #[.int .u8 bg,.int .i64 bP,.int .i64 cE,.int .i64 bD,.int .i64 bI,.bool bU,(.slice cV bL.length cU),.string gG,.string bW,.bool gH,(.slice iD dO.length iE),(.slice iF dP.length iG),.int .i64 eP] 46 (0,0)))∧ah (Below w.heap.size w wc))
     case first=>
      have H:=ad6.out
      clear ad6
      by_cases c63:bg=3
      ·rw [if_pos c63] at H
       have UN:=beq_iff_eq.mpr c63
       have ajp:=bne_eq_false_iff_eq.mpr c63
       clear c63
       (rw [UN])
       have H':=ah.mk H
       clear H
       go_wp2
       go_meet
       case rel=>exact ⟨_,((bg == 3)),(by (simp [*];done)),H',⟨az⟩,⟨N2⟩,⟨dZ⟩⟩
      ·rw [if_neg c63] at H
       have UN:=beq_eq_false_iff_ne.mpr c63
       have ajp:=bne_iff_ne.mpr c63
       (rw [UN])
       have H':=ah.mk H
       clear H
       go_wp2
       go_meet
       case rel=>exact ⟨_,((bg == 4)),(by rfl),H',⟨az⟩,⟨N2⟩,⟨dZ⟩⟩
     case rest=>
      clear ad6
      obtain ⟨kq,Jq,rfl,HA,aEx,aC,HB⟩:=hcut
      cases kq with
      |zero=>exact absurd HA.out (by simp [cK.j0])
      |succ aEy=>
       have H:=HA.out
       clear HA
       simp only [cK.j0] at H
       by_cases c64:Jq=true
       ·subst c64
        rw [if_pos rfl] at H
        by_cases c65:bD=0
        ·rw [if_pos c65] at H
         have ajq:=beq_iff_eq.mpr c65
         have ajr:=bne_eq_false_iff_eq.mpr c65
         clear c65
         obtain ⟨t229,A66,H⟩:=bd_ H
         obtain rfl:=Option.some.inj H
         have arT:wc.cell? ⟨bh,0,none⟩=some (.int .u8 bg):=(af aC.out 0).trans rfl
         have arU:wc.cell? ⟨bh,1,none⟩=some (.int .i64 bP):=(af aC.out 1).trans rfl
         have arV:wc.cell? ⟨bh,2,none⟩=some (.int .i64 cE):=(af aC.out 2).trans rfl
         have arW:wc.cell? ⟨bh,3,none⟩=some (.int .i64 bD):=(af aC.out 3).trans rfl
         have arX:wc.cell? ⟨bh,4,none⟩=some (.int .i64 bI):=(af aC.out 4).trans rfl
         have arY:wc.cell? ⟨bh,5,none⟩=some (.bool bU):=(af aC.out 5).trans rfl
         have arZ:wc.cell? ⟨bh,6,none⟩=some (.slice cV bL.length cU):=(af aC.out 6).trans rfl
         have ar0:wc.cell? ⟨bh,7,none⟩=some (.string gG):=(af aC.out 7).trans rfl
         have ar1:wc.cell? ⟨bh,8,none⟩=some (.string bW):=(af aC.out 8).trans rfl
         have ar2:wc.cell? ⟨bh,9,none⟩=some (.bool gH):=(af aC.out 9).trans rfl
         have ajs:wc.cell? ⟨bh,10,none⟩=some (.slice iD dO.length iE):=(af aC.out 10).trans rfl
         have ajt:wc.cell? ⟨bh,11,none⟩=some (.slice iF dP.length iG):=(af aC.out 11).trans rfl
         have aju:wc.cell? ⟨bh,12,none⟩=some (.int .i64 eP):=(af aC.out 12).trans rfl
         have ar3:=aa aC.out 0
         have ar4:=aa aC.out 1
         have ar5:=aa aC.out 2
         have ar6:=aa aC.out 3
         have ar7:=aa aC.out 4
         have ar8:=aa aC.out 5
         have ar9:=aa aC.out 6
         have asa:=aa aC.out 7
         have asb:=aa aC.out 8
         have asc:=aa aC.out 9
         have ajv:=aa aC.out 10
         have ajw:=aa aC.out 11
         have ajx:=aa aC.out 12
         go_wp2_with ((go_at_call 63;(with_reducible refine (dc.calls bI bU _ _ bL gG bW gH _ _ dO _ _ dP eP t229 _ ?bn ?bN ?cW ?fD ?gK ?gL A66.out).mono ?_);(case bn=>repeat (exact (Kd.bQ lQ.out HB.out)));(case bN=>exact mF.out);(case cW=>repeat (exact (Kd.bQ uN.out HB.out)));(case fD=>exact uO.out);(case gK=>repeat (exact (Kd.bQ uP.out HB.out)));(case gL=>exact uQ.out);rintro e w68 ⟨rfl,hb⟩;replace aC:=ah.mk (aA nL hb);replace HB:=ah.mk (ay aJ hb);(try clear hb)))
         go_ret
         exact ⟨by rfl,aJ⟩
        ·rw [if_neg c65] at H
         have ajq:=beq_eq_false_iff_ne.mpr c65
         have ajr:=bne_iff_ne.mpr c65
         obtain rfl:=Option.some.inj H
         have ase:wc.cell? ⟨bh,0,none⟩=some (.int .u8 bg):=(af aC.out 0).trans rfl
         have asf:wc.cell? ⟨bh,1,none⟩=some (.int .i64 bP):=(af aC.out 1).trans rfl
         have asg:wc.cell? ⟨bh,2,none⟩=some (.int .i64 cE):=(af aC.out 2).trans rfl
         have ash:wc.cell? ⟨bh,3,none⟩=some (.int .i64 bD):=(af aC.out 3).trans rfl
         have asi:wc.cell? ⟨bh,4,none⟩=some (.int .i64 bI):=(af aC.out 4).trans rfl
         have asj:wc.cell? ⟨bh,5,none⟩=some (.bool bU):=(af aC.out 5).trans rfl
         have asl:wc.cell? ⟨bh,6,none⟩=some (.slice cV bL.length cU):=(af aC.out 6).trans rfl
         have asn:wc.cell? ⟨bh,7,none⟩=some (.string gG):=(af aC.out 7).trans rfl
         have aso:wc.cell? ⟨bh,8,none⟩=some (.string bW):=(af aC.out 8).trans rfl
         have asp:wc.cell? ⟨bh,9,none⟩=some (.bool gH):=(af aC.out 9).trans rfl
         have ajy:wc.cell? ⟨bh,10,none⟩=some (.slice iD dO.length iE):=(af aC.out 10).trans rfl
         have ajz:wc.cell? ⟨bh,11,none⟩=some (.slice iF dP.length iG):=(af aC.out 11).trans rfl
         have ajA:wc.cell? ⟨bh,12,none⟩=some (.int .i64 eP):=(af aC.out 12).trans rfl
         have asq:=aa aC.out 0
         have asr:=aa aC.out 1
         have ast:=aa aC.out 2
         have asu:=aa aC.out 3
         have asv:=aa aC.out 4
         have asw:=aa aC.out 5
         have asx:=aa aC.out 6
         have asy:=aa aC.out 7
         have asz:=aa aC.out 8
         have asA:=aa aC.out 9
         have ajB:=aa aC.out 10
         have ajC:=aa aC.out 11
         have ajD:=aa aC.out 12
         go_wp2
         go_ret
         exact ⟨by rfl,aJ⟩
       ·replace c64:=Bool.eq_false_iff.mpr c64
        subst c64
        rw [if_neg (show ¬ (false=true) by decide)] at H
        by_cases c70:bg=6
        ·rw [if_pos c70] at H
         have ajE:=beq_iff_eq.mpr c70
         have ajF:=bne_eq_false_iff_eq.mpr c70
         clear c70
         by_cases c71:(wrap64 (cE + bD))=0
         ·rw [if_pos c71] at H
          have ajG:=beq_iff_eq.mpr c71
          have ajH:=bne_eq_false_iff_eq.mpr c71
          clear c71
          obtain ⟨t230,A72,H⟩:=bd_ H
          obtain rfl:=Option.some.inj H
          have asB:wc.cell? ⟨bh,0,none⟩=some (.int .u8 bg):=(af aC.out 0).trans rfl
          have asC:wc.cell? ⟨bh,1,none⟩=some (.int .i64 bP):=(af aC.out 1).trans rfl
          have asD:wc.cell? ⟨bh,2,none⟩=some (.int .i64 cE):=(af aC.out 2).trans rfl
          have asE:wc.cell? ⟨bh,3,none⟩=some (.int .i64 bD):=(af aC.out 3).trans rfl
          have asF:wc.cell? ⟨bh,4,none⟩=some (.int .i64 bI):=(af aC.out 4).trans rfl
          have asG:wc.cell? ⟨bh,5,none⟩=some (.bool bU):=(af aC.out 5).trans rfl
          have asH:wc.cell? ⟨bh,6,none⟩=some (.slice cV bL.length cU):=(af aC.out 6).trans rfl
          have asI:wc.cell? ⟨bh,7,none⟩=some (.string gG):=(af aC.out 7).trans rfl
          have asJ:wc.cell? ⟨bh,8,none⟩=some (.string bW):=(af aC.out 8).trans rfl
          have asK:wc.cell? ⟨bh,9,none⟩=some (.bool gH):=(af aC.out 9).trans rfl
          have ajI:wc.cell? ⟨bh,10,none⟩=some (.slice iD dO.length iE):=(af aC.out 10).trans rfl
          have ajJ:wc.cell? ⟨bh,11,none⟩=some (.slice iF dP.length iG):=(af aC.out 11).trans rfl
          have ajK:wc.cell? ⟨bh,12,none⟩=some (.int .i64 eP):=(af aC.out 12).trans rfl
          have asL:=aa aC.out 0
          have asM:=aa aC.out 1
          have asN:=aa aC.out 2
          have asO:=aa aC.out 3
          have asP:=aa aC.out 4
          have asQ:=aa aC.out 5
          have asR:=aa aC.out 6
          have asS:=aa aC.out 7
          have asT:=aa aC.out 8
          have asU:=aa aC.out 9
          have ajL:=aa aC.out 10
          have ajM:=aa aC.out 11
          have ajN:=aa aC.out 12
          go_wp2_with ((go_at_call 63;(with_reducible refine (dc.calls bI bU _ _ bL gG bW gH _ _ dO _ _ dP eP t230 _ ?bn ?bN ?cW ?fD ?gK ?gL A72.out).mono ?_);(case bn=>repeat (exact (Kd.bQ lQ.out HB.out)));(case bN=>exact mF.out);(case cW=>repeat (exact (Kd.bQ uN.out HB.out)));(case fD=>exact uO.out);(case gK=>repeat (exact (Kd.bQ uP.out HB.out)));(case gL=>exact uQ.out);rintro e w74 ⟨rfl,hb⟩;replace aC:=ah.mk (aA nL hb);replace HB:=ah.mk (ay aJ hb);(try clear hb)))
          go_ret
          exact ⟨by rfl,aJ⟩
         ·rw [if_neg c71] at H
          have ajG:=beq_eq_false_iff_ne.mpr c71
          have ajH:=bne_iff_ne.mpr c71
          obtain rfl:=Option.some.inj H
          have asV:wc.cell? ⟨bh,0,none⟩=some (.int .u8 bg):=(af aC.out 0).trans rfl
          have asW:wc.cell? ⟨bh,1,none⟩=some (.int .i64 bP):=(af aC.out 1).trans rfl
          have asX:wc.cell? ⟨bh,2,none⟩=some (.int .i64 cE):=(af aC.out 2).trans rfl
          have asY:wc.cell? ⟨bh,3,none⟩=some (.int .i64 bD):=(af aC.out 3).trans rfl
          have asZ:wc.cell? ⟨bh,4,none⟩=some (.int .i64 bI):=(af aC.out 4).trans rfl
          have as0:wc.cell? ⟨bh,5,none⟩=some (.bool bU):=(af aC.out 5).trans rfl
          have as1:wc.cell? ⟨bh,6,none⟩=some (.slice cV bL.length cU):=(af aC.out 6).trans rfl
          have as2:wc.cell? ⟨bh,7,none⟩=some (.string gG):=(af aC.out 7).trans rfl
          have as3:wc.cell? ⟨bh,8,none⟩=some (.string bW):=(af aC.out 8).trans rfl
          have as4:wc.cell? ⟨bh,9,none⟩=some (.bool gH):=(af aC.out 9).trans rfl
          have ajO:wc.cell? ⟨bh,10,none⟩=some (.slice iD dO.length iE):=(af aC.out 10).trans rfl
          have ajP:wc.cell? ⟨bh,11,none⟩=some (.slice iF dP.length iG):=(af aC.out 11).trans rfl
          have ajQ:wc.cell? ⟨bh,12,none⟩=some (.int .i64 eP):=(af aC.out 12).trans rfl
          have as5:=aa aC.out 0
          have as6:=aa aC.out 1
          have as7:=aa aC.out 2
          have as8:=aa aC.out 3
          have as9:=aa aC.out 4
          have ata:=aa aC.out 5
          have atb:=aa aC.out 6
          have atc:=aa aC.out 7
          have atd:=aa aC.out 8
          have ate:=aa aC.out 9
          have ajR:=aa aC.out 10
          have ajS:=aa aC.out 11
          have ajT:=aa aC.out 12
          go_wp2
          go_ret
          exact ⟨by rfl,aJ⟩
        ·rw [if_neg c70] at H
         have ajE:=beq_eq_false_iff_ne.mpr c70
         have ajF:=bne_iff_ne.mpr c70
         obtain rfl:=Option.some.inj H
         go_wp2
         go_ret
         exact ⟨by rfl,aJ⟩
 ·replace c3:=Bool.eq_false_iff.mpr c3
  subst c3
  rw [if_neg (show ¬ (false=true) by decide)] at H
  obtain rfl:=Option.some.inj H
  go_enter Tryz.func58,Tryz.ntmps58
  go_wp2_with (first|((with_reducible refine bp (N:=1) rfl ?_);refine br ?hg (N:=1) ?hd (cs:=#[.int .u8 bg,.int .i64 bP,.int .i64 cE,.int .i64 bD,.int .i64 bI,.bool bU,.slice cV bL.length cU,.string gG,.string bW,.bool gH,.slice iD dO.length iE,.slice iF dP.length iG,.int .i64 eP]) (t:=46) ?hr ?_;(case hd=>rfl);(case hg=>rfl);(case hr=>(go_simp;done));intro bh hg RV bG hb;have aC:=ah.mk (bG);have El:=ah.mk ((bF:w.heap.size≤bh));have Em:=ah.mk ((bF:w.heap.size≤bh));replace HB:=ah.mk (ay aJ hb);clear hb bG hg;have atf:RV.cell? ⟨bh,0,none⟩=some (.int .u8 bg):=(af aC.out 0).trans rfl;have atg:RV.cell? ⟨bh,1,none⟩=some (.int .i64 bP):=(af aC.out 1).trans rfl;have ath:RV.cell? ⟨bh,2,none⟩=some (.int .i64 cE):=(af aC.out 2).trans rfl;have ati:RV.cell? ⟨bh,3,none⟩=some (.int .i64 bD):=(af aC.out 3).trans rfl;have atj:RV.cell? ⟨bh,4,none⟩=some (.int .i64 bI):=(af aC.out 4).trans rfl;have atk:RV.cell? ⟨bh,5,none⟩=some (.bool bU):=(af aC.out 5).trans rfl;have atl:RV.cell? ⟨bh,6,none⟩=some (.slice cV bL.length cU):=(af aC.out 6).trans rfl;have atm:RV.cell? ⟨bh,7,none⟩=some (.string gG):=(af aC.out 7).trans rfl;have atn:RV.cell? ⟨bh,8,none⟩=some (.string bW):=(af aC.out 8).trans rfl;have ato:RV.cell? ⟨bh,9,none⟩=some (.bool gH):=(af aC.out 9).trans rfl;have ajU:RV.cell? ⟨bh,10,none⟩=some (.slice iD dO.length iE):=(af aC.out 10).trans rfl;have ajV:RV.cell? ⟨bh,11,none⟩=some (.slice iF dP.length iG):=(af aC.out 11).trans rfl;have ajW:RV.cell? ⟨bh,12,none⟩=some (.int .i64 eP):=(af aC.out 12).trans rfl;have atp:=aa aC.out 0;have atq:=aa aC.out 1;have atr:=aa aC.out 2;have att:=aa aC.out 3;have atu:=aa aC.out 4;have atv:=aa aC.out 5;have atw:=aa aC.out 6;have atx:=aa aC.out 7;have aty:=aa aC.out 8;have atz:=aa aC.out 9;have ajX:=aa aC.out 10;have ajY:=aa aC.out 11;have ajZ:=aa aC.out 12)|((with_reducible refine bp (N:=9) rfl ?_);refine Kd.mM (Kd.int .i64) _ 3 ?hg (N:=9) ?hd (xs:=([bP,cE,bD]:List Int)) (inner:=[.int .i64 bP,.int .i64 cE,.int .i64 bD]) (ok:=fun _ =>True) (pR:=fun _ =>True) ?hr ?hp (fun _ hk=>hk) trivial (Below.refl _ _) (Nat.le_refl _) cF ?_;(case hd=>rfl);(case hg=>rfl);(case hr=>(go_simp;done));(case hp=>exact (dJ.one (show Kd.M (Kd.int .i64) _ _ _ bP [.int .i64 bP] from rfl) (dJ.one (show Kd.M (Kd.int .i64) _ _ _ cE [.int .i64 cE] from rfl) (dJ.one (show Kd.M (Kd.int .i64) _ _ _ bD [.int .i64 bD] from rfl) (dJ.none _ _)))));intro v222 Vv aeb hb rz gS;clear rz gS;(rw [← BK.out] at aeb);have iZ:=ah.mk (Kd.dX aeb (b7 aJ));replace aC:=ah.mk (aA nL hb);replace HB:=ah.mk (ay aJ hb);clear hb aeb;obtain ⟨ayF,ayG,ayH⟩:=Kd.dm iZ.out;subst ayH)|((with_reducible refine bK (f:=102) rfl ?_);refine dB (some 10) rfl rfl Tryz.func102 aq rfl #[.slice ayF wu.length ayG] rfl dK ?_;(with_reducible refine (cQ.calls k _ _ wu false _ ?bn ?bN A2.out).mono ?_);(case bn=>repeat (exact (Kd.ck iZ.out).2.2));(case bN=>exact (Kd.ck iZ.out).2.1);rintro e w' ⟨rfl,⟨nd,rfl⟩⟩;refine ⟨_,rfl,?_⟩))
  go_ret
  exact ⟨by rfl,dZ⟩
end Go.Proofs.YtbjjaaodfbjkfaaGreatDoor.mU
