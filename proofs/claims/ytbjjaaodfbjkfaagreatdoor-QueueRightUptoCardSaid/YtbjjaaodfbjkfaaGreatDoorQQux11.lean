import Derived.Test.YtbjjaaodfbjkfaaGreatDoorQQux10
namespace Go.Proofs.YtbjjaaodfbjkfaaGreatDoor.mN
open Go.RowKit Go.Proofs.YtbjjaaodfbjkfaaGreatDoor.xV Go.Proofs.ak.bQ Go.Proofs.ak.dA Go.Proofs.ak.cX
attribute [local go_sem] jc jd j4 j5 gU gV je jf
set_option linter.unusedVariables false
set_option linter.unusedSimpArgs false
def cK.j0:Nat→Int→Bool→Int→Int→Int→Int→Int→Bool→List ByteArray→ByteArray→ByteArray→Bool→List (jz)→List Int→Int→Option (Bool)
 | 0,_,_,_,_,_,_,_,_,_,_,_,_,_,_,_ =>none
 |k + 1,o9,x53,apA,apB,YD,OY,OZ,O0,O1,O2,O3,O4,O5,O6,O7=>if x53=true then (if OY=0 then ((cY.f OZ O0 O1 O2 O3 O4 O5 O6 O7).bind fun t229=>(some t229)) else (some false)) else (if o9=6 then (if (wrap64 (YD + OY))=0 then ((cY.f OZ O0 O1 O2 O3 O4 O5 O6 O7).bind fun t230=>(some t230)) else (some false)) else (some false))
def cK.f (k:Nat) (bf:Int) (bP:Int) (cE:Int) (bE:Int) (bK:Int) (bU:Bool) (bN:List ByteArray) (gH:ByteArray) (bX:ByteArray) (gI:Bool) (dO:List (jz)) (dP:List Int) (eP:Int):Option (Bool):=(cR.f k (([bP,cE,bE]:List Int))).bind fun t224=>(if t224=true then (if bf=1 then (if (wrap64 ((wrap64 (bP + cE)) + bE))=0 then ((fQ.f k bK bU bN gH bX gI dO dP eP).bind fun t225=>(some t225)) else (some false)) else (if bf=5 then (if (wrap64 (cE + bE))=0 then ((cY.f bK bU bN gH bX gI dO dP eP).bind fun t226=>(if t226=true then (some true) else ((fQ.f k bK bU bN gH bX gI dO dP eP).bind fun t227=>(some t227)))) else (some false)) else (if bf=2 then ((cY.f bK bU bN gH bX gI dO dP eP).bind fun t228=>(some t228)) else (if bf=3 then (cK.j0 k bf (bf == 3) bf bP cE bE bK bU bN gH bX gI dO dP eP) else (cK.j0 k bf (bf == 4) bf bP cE bE bK bU bN gH bX gI dO dP eP))))) else (some false))
theorem cK.ey:∀ k,(∀ y0 y1 y2 y3 y4 y5 y6 y7 y8 y9 y10 y11 y12 y13 y14,eY (cK.j0 k y0 y1 y2 y3 y4 y5 y6 y7 y8 y9 y10 y11 y12 y13 y14) (cK.j0 (k + 1) y0 y1 y2 y3 y4 y5 y6 y7 y8 y9 y10 y11 y12 y13 y14))
 | 0=>fun _ _ _ _ _ _ _ _ _ _ _ _ _ _ _ r h=>by simp [cK.j0] at h
 |k + 1=>by
  have mC:=cK.ey k
  ·intro y0 y1 y2 y3 y4 y5 y6 y7 y8 y9 y10 y11 y12 y13 y14
   unfold cK.j0
   repeat' (with_reducible exact eY.refl _)
theorem cK.mono:∀ a0 a1 a2 a3 a4 a5 a6 a7 a8 a9 TK TL a12 k,eY (cK.f k a0 a1 a2 a3 a4 a5 a6 a7 a8 a9 TK TL a12) (cK.f (k + 1) a0 a1 a2 a3 a4 a5 a6 a7 a8 a9 TK TL a12):=by
 intro a0 a1 a2 a3 a4 a5 a6 a7 a8 a9 TK TL a12 k
 have mC:=cK.ey k
 unfold cK.f
 repeat' (with_reducible first|exact mC _ _ _ _ _ _ _ _ _ _ _ _ _ _ _|exact fQ.mono _ _ _ _ _ _ _ _ _ _|exact cR.mono _ _|exact eY.refl _|refine eY.ite ?_ ?_|refine eY.bind ?_ (fun _ =>?_))
set_option maxHeartbeats 8000000 in
set_option maxRecDepth 100000 in
theorem cK.calls (k:Nat) (bf:Int) (bP:Int) (cE:Int) (bE:Int) (bK:Int) (bU:Bool) (cU:Option Addr) (cT:Nat) (bN:List ByteArray) (gH:ByteArray) (bX:ByteArray) (gI:Bool) (iA:Option Addr) (iB:Nat) (dO:List (jz)) (iC:Option Addr) (iD:Nat) (dP:List Int) (eP:Int) (r:Bool) (w:World) (mH:Kd.C Kd.string w cU bN.length bN) (mQ:bN.length≤cT) (DX:Kd.C tq w iA dO.length dO) (DY:dO.length≤iB) (DZ:Kd.C (Kd.int .u8) w iC dP.length dP) (D2:dP.length≤iD) (hG:bp w) (h:cK.f k bf bP cE bE bK bU bN gH bX gI dO dP eP=some r):
 Calls Tryz.prog 58 #[.agg #[.int .u8 bf,.int .i64 bP,.int .i64 cE,.int .i64 bE,.int .i64 bK,.bool bU,.slice cU bN.length cT,.string gH,.string bX,.bool gI,.slice iA dO.length iB,.slice iC dP.length iD,.int .i64 eP]] w fun e w'=>e= .returned (.bool r)∧Below w.heap.size w w':=by
 have agJ:=Tryz.underlying46
 have BD:=Tryz.underlying34
 have lH:=ah.mk mH
 have mA:=ah.mk mQ
 clear mH mQ
 have uM:=ah.mk DX
 have uN:=ah.mk DY
 clear DX DY
 have uO:=ah.mk DZ
 have uP:=ah.mk D2
 clear DZ D2
 have HB:=ah.mk (Below.refl w.heap.size w)
 have HG:=ah.mk hG
 clear hG
 have H:((cR.f k (([bP,cE,bE]:List Int))).bind fun t224=>(if t224=true then (if bf=1 then (if (wrap64 ((wrap64 (bP + cE)) + bE))=0 then ((fQ.f k bK bU bN gH bX gI dO dP eP).bind fun t225=>(some t225)) else (some false)) else (if bf=5 then (if (wrap64 (cE + bE))=0 then ((cY.f bK bU bN gH bX gI dO dP eP).bind fun t226=>(if t226=true then (some true) else ((fQ.f k bK bU bN gH bX gI dO dP eP).bind fun t227=>(some t227)))) else (some false)) else (if bf=2 then ((cY.f bK bU bN gH bX gI dO dP eP).bind fun t228=>(some t228)) else (if bf=3 then (cK.j0 k bf (bf == 3) bf bP cE bE bK bU bN gH bX gI dO dP eP) else (cK.j0 k bf (bf == 4) bf bP cE bE bK bU bN gH bX gI dO dP eP))))) else (some false)))=some r:=h
 clear h
 obtain ⟨wk,TM⟩:∃ y_:List Int,y_=(([bP,cE,bE]:List Int)):=⟨_,rfl⟩
 replace H:((cR.f k wk).bind fun t224=>(if t224=true then (if bf=1 then (if (wrap64 ((wrap64 (bP + cE)) + bE))=0 then ((fQ.f k bK bU bN gH bX gI dO dP eP).bind fun t225=>(some t225)) else (some false)) else (if bf=5 then (if (wrap64 (cE + bE))=0 then ((cY.f bK bU bN gH bX gI dO dP eP).bind fun t226=>(if t226=true then (some true) else ((fQ.f k bK bU bN gH bX gI dO dP eP).bind fun t227=>(some t227)))) else (some false)) else (if bf=2 then ((cY.f bK bU bN gH bX gI dO dP eP).bind fun t228=>(some t228)) else (if bf=3 then (cK.j0 k bf (bf == 3) bf bP cE bE bK bU bN gH bX gI dO dP eP) else (cK.j0 k bf (bf == 4) bf bP cE bE bK bU bN gH bX gI dO dP eP))))) else (some false)))=some r:=by (rw [TM];with_reducible exact H)
 have Bq:=ah.mk TM
 clear TM
 obtain ⟨t224,A2,H⟩:=bd_ H
 by_cases c3:t224=true
 ·subst c3
  rw [if_pos rfl] at H
  by_cases c4:bf=1
  ·rw [if_pos c4] at H
   have mo:=beq_iff_eq.mpr c4
   have Aj:=bne_eq_false_iff_eq.mpr c4
   clear c4
   by_cases c5:(wrap64 ((wrap64 (bP + cE)) + bE))=0
   ·rw [if_pos c5] at H
    have pG:=beq_iff_eq.mpr c5
    have Lx:=bne_eq_false_iff_eq.mpr c5
    clear c5
    obtain ⟨t225,A6,H⟩:=bd_ H
    obtain rfl:=Option.some.inj H
    go_enter Tryz.func58,Tryz.ntmps58
    go_wp2_with (first|((with_reducible refine bq (N:=1) rfl ?_);refine br ?hg (N:=1) ?hd (cs:=#[.int .u8 bf,.int .i64 bP,.int .i64 cE,.int .i64 bE,.int .i64 bK,.bool bU,.slice cU bN.length cT,.string gH,.string bX,.bool gI,.slice iA dO.length iB,.slice iC dP.length iD,.int .i64 eP]) (t:=46) ?hr ?_;(case hd=>rfl);(case hg=>rfl);(case hr=>(go_simp;done));intro bh hg w7 bJ hb;have aC:=ah.mk (bJ);have D3:=ah.mk ((bI:w.heap.size≤bh));have D4:=ah.mk ((bI:w.heap.size≤bh));replace HB:=ah.mk (ay aJ hb);clear hb bJ hg;have Dv:w7.cell? ⟨bh,0,none⟩=some (.int .u8 bf):=(af aC.out 0).trans rfl;have Dw:w7.cell? ⟨bh,1,none⟩=some (.int .i64 bP):=(af aC.out 1).trans rfl;have S8:w7.cell? ⟨bh,2,none⟩=some (.int .i64 cE):=(af aC.out 2).trans rfl;have acv:w7.cell? ⟨bh,3,none⟩=some (.int .i64 bE):=(af aC.out 3).trans rfl;have acw:w7.cell? ⟨bh,4,none⟩=some (.int .i64 bK):=(af aC.out 4).trans rfl;have acy:w7.cell? ⟨bh,5,none⟩=some (.bool bU):=(af aC.out 5).trans rfl;have acz:w7.cell? ⟨bh,6,none⟩=some (.slice cU bN.length cT):=(af aC.out 6).trans rfl;have acA:w7.cell? ⟨bh,7,none⟩=some (.string gH):=(af aC.out 7).trans rfl;have acB:w7.cell? ⟨bh,8,none⟩=some (.string bX):=(af aC.out 8).trans rfl;have axi:w7.cell? ⟨bh,9,none⟩=some (.bool gI):=(af aC.out 9).trans rfl;have apC:w7.cell? ⟨bh,10,none⟩=some (.slice iA dO.length iB):=(af aC.out 10).trans rfl;have apD:w7.cell? ⟨bh,11,none⟩=some (.slice iC dP.length iD):=(af aC.out 11).trans rfl;have apE:w7.cell? ⟨bh,12,none⟩=some (.int .i64 eP):=(af aC.out 12).trans rfl;have Dx:=aa aC.out 0;have Dy:=aa aC.out 1;have S9:=aa aC.out 2;have acC:=aa aC.out 3;have acD:=aa aC.out 4;have acE:=aa aC.out 5;have acF:=aa aC.out 6;have acG:=aa aC.out 7;have acH:=aa aC.out 8;have axj:=aa aC.out 9;have apF:=aa aC.out 10;have apG:=aa aC.out 11;have apH:=aa aC.out 12)|((with_reducible refine bq (N:=9) rfl ?_);refine Kd.mG (Kd.int .i64) _ 3 ?hg (N:=9) ?hd (xs:=([bP,cE,bE]:List Int)) (inner:=[.int .i64 bP,.int .i64 cE,.int .i64 bE]) (ok:=fun _ =>True) (pN:=fun _ =>True) ?hr ?hp (fun _ hk=>hk) trivial (Below.refl _ _) (Nat.le_refl _) cP ?_;(case hd=>rfl);(case hg=>rfl);(case hr=>(go_simp;done));(case hp=>exact (dK.one (show Kd.M (Kd.int .i64) _ _ _ bP [.int .i64 bP] from rfl) (dK.one (show Kd.M (Kd.int .i64) _ _ _ cE [.int .i64 cE] from rfl) (dK.one (show Kd.M (Kd.int .i64) _ _ _ bE [.int .i64 bE] from rfl) (dK.none _ _)))));intro v222 w9 acI hb ru gN;clear ru gN;(rw [← Bq.out] at acI);have iW:=ah.mk (Kd.dW acI (cg aJ));replace aC:=ah.mk (az nH hb);replace HB:=ah.mk (ay aJ hb);clear hb acI;obtain ⟨xZ,ya,acf⟩:=Kd.dh iW.out;subst acf)|((with_reducible refine bH (f:=102) rfl ?_);refine dx (some 10) rfl rfl Tryz.func102 aq rfl #[.slice xZ wk.length ya] rfl dI ?_;(with_reducible refine (cR.calls k _ _ wk true _ ?bk ?bM A2.out).mono ?_);(case bk=>repeat (exact (Kd.ck iW.out).2.2));(case bM=>exact (Kd.ck iW.out).2.1);rintro e w' ⟨rfl,⟨nd,rfl⟩⟩;refine ⟨_,rfl,?_⟩;have ue:w9.cell? ⟨bh,0,none⟩=some (.int .u8 bf):=(af aC.out 0).trans rfl;have uf:w9.cell? ⟨bh,1,none⟩=some (.int .i64 bP):=(af aC.out 1).trans rfl;have wP:w9.cell? ⟨bh,2,none⟩=some (.int .i64 cE):=(af aC.out 2).trans rfl;have yF:w9.cell? ⟨bh,3,none⟩=some (.int .i64 bE):=(af aC.out 3).trans rfl;have yG:w9.cell? ⟨bh,4,none⟩=some (.int .i64 bK):=(af aC.out 4).trans rfl;have yH:w9.cell? ⟨bh,5,none⟩=some (.bool bU):=(af aC.out 5).trans rfl;have yI:w9.cell? ⟨bh,6,none⟩=some (.slice cU bN.length cT):=(af aC.out 6).trans rfl;have yJ:w9.cell? ⟨bh,7,none⟩=some (.string gH):=(af aC.out 7).trans rfl;have yK:w9.cell? ⟨bh,8,none⟩=some (.string bX):=(af aC.out 8).trans rfl;have apI:w9.cell? ⟨bh,9,none⟩=some (.bool gI):=(af aC.out 9).trans rfl;have agK:w9.cell? ⟨bh,10,none⟩=some (.slice iA dO.length iB):=(af aC.out 10).trans rfl;have agL:w9.cell? ⟨bh,11,none⟩=some (.slice iC dP.length iD):=(af aC.out 11).trans rfl;have agM:w9.cell? ⟨bh,12,none⟩=some (.int .i64 eP):=(af aC.out 12).trans rfl;have ug:=aa aC.out 0;have uh:=aa aC.out 1;have wQ:=aa aC.out 2;have yL:=aa aC.out 3;have yM:=aa aC.out 4;have yN:=aa aC.out 5;have yO:=aa aC.out 6;have yP:=aa aC.out 7;have yQ:=aa aC.out 8;have apJ:=aa aC.out 9;have agN:=aa aC.out 10;have agO:=aa aC.out 11;have agP:=aa aC.out 12)|(go_at_call 71;(with_reducible refine (fQ.calls k bK bU _ _ bN gH bX gI _ _ dO _ _ dP eP t225 _ ?bk ?bM ?cQ ?fk ?gf ?gh ?lq A6.out).mono ?_);(case bk=>repeat (exact (Kd.bD lH.out dY)));(case bM=>exact mA.out);(case cQ=>repeat (exact (Kd.bD uM.out dY)));(case fk=>exact uN.out);(case gf=>repeat (exact (Kd.bD uO.out dY)));(case gh=>exact uP.out);(case lq=>exact bp.below HG.out dY);rintro e ko ⟨rfl,hb⟩;replace iW:=ah.mk (Kd.bG BQ hb);replace aC:=ah.mk (az nH hb);replace HB:=ah.mk (ay dY hb);(try clear hb)))
    go_ret
    exact ⟨by rfl,aJ⟩
   ·rw [if_neg c5] at H
    have pG:=beq_eq_false_iff_ne.mpr c5
    have Lx:=bne_iff_ne.mpr c5
    obtain rfl:=Option.some.inj H
    go_enter Tryz.func58,Tryz.ntmps58
    go_wp2_with (first|((with_reducible refine bq (N:=1) rfl ?_);refine br ?hg (N:=1) ?hd (cs:=#[.int .u8 bf,.int .i64 bP,.int .i64 cE,.int .i64 bE,.int .i64 bK,.bool bU,.slice cU bN.length cT,.string gH,.string bX,.bool gI,.slice iA dO.length iB,.slice iC dP.length iD,.int .i64 eP]) (t:=46) ?hr ?_;(case hd=>rfl);(case hg=>rfl);(case hr=>(go_simp;done));intro bh hg JB bJ hb;have aC:=ah.mk (bJ);have D3:=ah.mk ((bI:w.heap.size≤bh));have D4:=ah.mk ((bI:w.heap.size≤bh));replace HB:=ah.mk (ay aJ hb);clear hb bJ hg;have Ix:JB.cell? ⟨bh,0,none⟩=some (.int .u8 bf):=(af aC.out 0).trans rfl;have Iy:JB.cell? ⟨bh,1,none⟩=some (.int .i64 bP):=(af aC.out 1).trans rfl;have O8:JB.cell? ⟨bh,2,none⟩=some (.int .i64 cE):=(af aC.out 2).trans rfl;have O9:JB.cell? ⟨bh,3,none⟩=some (.int .i64 bE):=(af aC.out 3).trans rfl;have Pb:JB.cell? ⟨bh,4,none⟩=some (.int .i64 bK):=(af aC.out 4).trans rfl;have Pc:JB.cell? ⟨bh,5,none⟩=some (.bool bU):=(af aC.out 5).trans rfl;have Pd:JB.cell? ⟨bh,6,none⟩=some (.slice cU bN.length cT):=(af aC.out 6).trans rfl;have Pe:JB.cell? ⟨bh,7,none⟩=some (.string gH):=(af aC.out 7).trans rfl;have Pf:JB.cell? ⟨bh,8,none⟩=some (.string bX):=(af aC.out 8).trans rfl;have apK:JB.cell? ⟨bh,9,none⟩=some (.bool gI):=(af aC.out 9).trans rfl;have agQ:JB.cell? ⟨bh,10,none⟩=some (.slice iA dO.length iB):=(af aC.out 10).trans rfl;have agR:JB.cell? ⟨bh,11,none⟩=some (.slice iC dP.length iD):=(af aC.out 11).trans rfl;have agS:JB.cell? ⟨bh,12,none⟩=some (.int .i64 eP):=(af aC.out 12).trans rfl;have Iz:=aa aC.out 0;have IA:=aa aC.out 1;have Pg:=aa aC.out 2;have Ph:=aa aC.out 3;have Pj:=aa aC.out 4;have Pk:=aa aC.out 5;have Pm:=aa aC.out 6;have Pn:=aa aC.out 7;have Po:=aa aC.out 8;have apL:=aa aC.out 9;have agT:=aa aC.out 10;have agU:=aa aC.out 11;have agV:=aa aC.out 12)|((with_reducible refine bq (N:=9) rfl ?_);refine Kd.mG (Kd.int .i64) _ 3 ?hg (N:=9) ?hd (xs:=([bP,cE,bE]:List Int)) (inner:=[.int .i64 bP,.int .i64 cE,.int .i64 bE]) (ok:=fun _ =>True) (pN:=fun _ =>True) ?hr ?hp (fun _ hk=>hk) trivial (Below.refl _ _) (Nat.le_refl _) cP ?_;(case hd=>rfl);(case hg=>rfl);(case hr=>(go_simp;done));(case hp=>exact (dK.one (show Kd.M (Kd.int .i64) _ _ _ bP [.int .i64 bP] from rfl) (dK.one (show Kd.M (Kd.int .i64) _ _ _ cE [.int .i64 cE] from rfl) (dK.one (show Kd.M (Kd.int .i64) _ _ _ bE [.int .i64 bE] from rfl) (dK.none _ _)))));intro v222 tC acJ hb ru gN;clear ru gN;(rw [← Bq.out] at acJ);have iW:=ah.mk (Kd.dW acJ (cg aJ));replace aC:=ah.mk (az nH hb);replace HB:=ah.mk (ay aJ hb);clear hb acJ;obtain ⟨TN,TP,acK⟩:=Kd.dh iW.out;subst acK)|((with_reducible refine bH (f:=102) rfl ?_);refine dx (some 10) rfl rfl Tryz.func102 aq rfl #[.slice TN wk.length TP] rfl dI ?_;(with_reducible refine (cR.calls k _ _ wk true _ ?bk ?bM A2.out).mono ?_);(case bk=>repeat (exact (Kd.ck iW.out).2.2));(case bM=>exact (Kd.ck iW.out).2.1);rintro e w' ⟨rfl,⟨nd,rfl⟩⟩;refine ⟨_,rfl,?_⟩;have CM:tC.cell? ⟨bh,0,none⟩=some (.int .u8 bf):=(af aC.out 0).trans rfl;have CN:tC.cell? ⟨bh,1,none⟩=some (.int .i64 bP):=(af aC.out 1).trans rfl;have CO:tC.cell? ⟨bh,2,none⟩=some (.int .i64 cE):=(af aC.out 2).trans rfl;have CP:tC.cell? ⟨bh,3,none⟩=some (.int .i64 bE):=(af aC.out 3).trans rfl;have CQ:tC.cell? ⟨bh,4,none⟩=some (.int .i64 bK):=(af aC.out 4).trans rfl;have CR:tC.cell? ⟨bh,5,none⟩=some (.bool bU):=(af aC.out 5).trans rfl;have CS:tC.cell? ⟨bh,6,none⟩=some (.slice cU bN.length cT):=(af aC.out 6).trans rfl;have CT:tC.cell? ⟨bh,7,none⟩=some (.string gH):=(af aC.out 7).trans rfl;have CU:tC.cell? ⟨bh,8,none⟩=some (.string bX):=(af aC.out 8).trans rfl;have apM:tC.cell? ⟨bh,9,none⟩=some (.bool gI):=(af aC.out 9).trans rfl;have agW:tC.cell? ⟨bh,10,none⟩=some (.slice iA dO.length iB):=(af aC.out 10).trans rfl;have agX:tC.cell? ⟨bh,11,none⟩=some (.slice iC dP.length iD):=(af aC.out 11).trans rfl;have agY:tC.cell? ⟨bh,12,none⟩=some (.int .i64 eP):=(af aC.out 12).trans rfl;have CV:=aa aC.out 0;have CX:=aa aC.out 1;have CY:=aa aC.out 2;have CZ:=aa aC.out 3;have C0:=aa aC.out 4;have C2:=aa aC.out 5;have C3:=aa aC.out 6;have C4:=aa aC.out 7;have C5:=aa aC.out 8;have apN:=aa aC.out 9;have agZ:=aa aC.out 10;have ag0:=aa aC.out 11;have ag1:=aa aC.out 12))
    go_ret
    exact ⟨by rfl,dY⟩
  ·rw [if_neg c4] at H
   have mo:=beq_eq_false_iff_ne.mpr c4
   have Aj:=bne_iff_ne.mpr c4
   by_cases c20:bf=5
   ·rw [if_pos c20] at H
    have NK:=beq_iff_eq.mpr c20
    have NL:=bne_eq_false_iff_eq.mpr c20
    clear c20
    by_cases c21:(wrap64 (cE + bE))=0
    ·rw [if_pos c21] at H
     have aaH:=beq_iff_eq.mpr c21
     have aaI:=bne_eq_false_iff_eq.mpr c21
     clear c21
     obtain ⟨t226,A22,H⟩:=bd_ H
     by_cases c23:t226=true
     ·subst c23
      rw [if_pos rfl] at H
      obtain rfl:=Option.some.inj H
      go_enter Tryz.func58,Tryz.ntmps58
      go_wp2_with (first|((with_reducible refine bq (N:=1) rfl ?_);refine br ?hg (N:=1) ?hd (cs:=#[.int .u8 bf,.int .i64 bP,.int .i64 cE,.int .i64 bE,.int .i64 bK,.bool bU,.slice cU bN.length cT,.string gH,.string bX,.bool gI,.slice iA dO.length iB,.slice iC dP.length iD,.int .i64 eP]) (t:=46) ?hr ?_;(case hd=>rfl);(case hg=>rfl);(case hr=>(go_simp;done));intro bh hg xY bJ hb;have aC:=ah.mk (bJ);have D3:=ah.mk ((bI:w.heap.size≤bh));have D4:=ah.mk ((bI:w.heap.size≤bh));replace HB:=ah.mk (ay aJ hb);clear hb bJ hg;have CF:xY.cell? ⟨bh,0,none⟩=some (.int .u8 bf):=(af aC.out 0).trans rfl;have CG:xY.cell? ⟨bh,1,none⟩=some (.int .i64 bP):=(af aC.out 1).trans rfl;have CH:xY.cell? ⟨bh,2,none⟩=some (.int .i64 cE):=(af aC.out 2).trans rfl;have GN:xY.cell? ⟨bh,3,none⟩=some (.int .i64 bE):=(af aC.out 3).trans rfl;have GP:xY.cell? ⟨bh,4,none⟩=some (.int .i64 bK):=(af aC.out 4).trans rfl;have Pp:xY.cell? ⟨bh,5,none⟩=some (.bool bU):=(af aC.out 5).trans rfl;have Pq:xY.cell? ⟨bh,6,none⟩=some (.slice cU bN.length cT):=(af aC.out 6).trans rfl;have Pr:xY.cell? ⟨bh,7,none⟩=some (.string gH):=(af aC.out 7).trans rfl;have Pv:xY.cell? ⟨bh,8,none⟩=some (.string bX):=(af aC.out 8).trans rfl;have apO:xY.cell? ⟨bh,9,none⟩=some (.bool gI):=(af aC.out 9).trans rfl;have ag2:xY.cell? ⟨bh,10,none⟩=some (.slice iA dO.length iB):=(af aC.out 10).trans rfl;have ag3:xY.cell? ⟨bh,11,none⟩=some (.slice iC dP.length iD):=(af aC.out 11).trans rfl;have ag4:xY.cell? ⟨bh,12,none⟩=some (.int .i64 eP):=(af aC.out 12).trans rfl;have CI:=aa aC.out 0;have CJ:=aa aC.out 1;have CK:=aa aC.out 2;have GQ:=aa aC.out 3;have GR:=aa aC.out 4;have Pw:=aa aC.out 5;have Px:=aa aC.out 6;have Py:=aa aC.out 7;have Pz:=aa aC.out 8;have apP:=aa aC.out 9;have ag5:=aa aC.out 10;have ag6:=aa aC.out 11;have ag7:=aa aC.out 12)|((with_reducible refine bq (N:=9) rfl ?_);refine Kd.mG (Kd.int .i64) _ 3 ?hg (N:=9) ?hd (xs:=([bP,cE,bE]:List Int)) (inner:=[.int .i64 bP,.int .i64 cE,.int .i64 bE]) (ok:=fun _ =>True) (pN:=fun _ =>True) ?hr ?hp (fun _ hk=>hk) trivial (Below.refl _ _) (Nat.le_refl _) cP ?_;(case hd=>rfl);(case hg=>rfl);(case hr=>(go_simp;done));(case hp=>exact (dK.one (show Kd.M (Kd.int .i64) _ _ _ bP [.int .i64 bP] from rfl) (dK.one (show Kd.M (Kd.int .i64) _ _ _ cE [.int .i64 cE] from rfl) (dK.one (show Kd.M (Kd.int .i64) _ _ _ bE [.int .i64 bE] from rfl) (dK.none _ _)))));intro v222 K1 acM hb ru gN;clear ru gN;(rw [← Bq.out] at acM);have iW:=ah.mk (Kd.dW acM (cg aJ));replace aC:=ah.mk (az nH hb);replace HB:=ah.mk (ay aJ hb);clear hb acM;obtain ⟨Yx,Yy,aci⟩:=Kd.dh iW.out;subst aci)|((with_reducible refine bH (f:=102) rfl ?_);refine dx (some 10) rfl rfl Tryz.func102 aq rfl #[.slice Yx wk.length Yy] rfl dI ?_;(with_reducible refine (cR.calls k _ _ wk true _ ?bk ?bM A2.out).mono ?_);(case bk=>repeat (exact (Kd.ck iW.out).2.2));(case bM=>exact (Kd.ck iW.out).2.1);rintro e w' ⟨rfl,⟨nd,rfl⟩⟩;refine ⟨_,rfl,?_⟩;have Vo:K1.cell? ⟨bh,0,none⟩=some (.int .u8 bf):=(af aC.out 0).trans rfl;have Vp:K1.cell? ⟨bh,1,none⟩=some (.int .i64 bP):=(af aC.out 1).trans rfl;have Vq:K1.cell? ⟨bh,2,none⟩=some (.int .i64 cE):=(af aC.out 2).trans rfl;have apQ:K1.cell? ⟨bh,3,none⟩=some (.int .i64 bE):=(af aC.out 3).trans rfl;have apR:K1.cell? ⟨bh,4,none⟩=some (.int .i64 bK):=(af aC.out 4).trans rfl;have apS:K1.cell? ⟨bh,5,none⟩=some (.bool bU):=(af aC.out 5).trans rfl;have apT:K1.cell? ⟨bh,6,none⟩=some (.slice cU bN.length cT):=(af aC.out 6).trans rfl;have apU:K1.cell? ⟨bh,7,none⟩=some (.string gH):=(af aC.out 7).trans rfl;have apV:K1.cell? ⟨bh,8,none⟩=some (.string bX):=(af aC.out 8).trans rfl;have apW:K1.cell? ⟨bh,9,none⟩=some (.bool gI):=(af aC.out 9).trans rfl;have ag8:K1.cell? ⟨bh,10,none⟩=some (.slice iA dO.length iB):=(af aC.out 10).trans rfl;have ag9:K1.cell? ⟨bh,11,none⟩=some (.slice iC dP.length iD):=(af aC.out 11).trans rfl;have aha:K1.cell? ⟨bh,12,none⟩=some (.int .i64 eP):=(af aC.out 12).trans rfl;have Vr:=aa aC.out 0;have Vs:=aa aC.out 1;have Vt:=aa aC.out 2;have apX:=aa aC.out 3;have apY:=aa aC.out 4;have apZ:=aa aC.out 5;have ap0:=aa aC.out 6;have ap1:=aa aC.out 7;have ap2:=aa aC.out 8;have ap3:=aa aC.out 9;have ahb:=aa aC.out 10;have ahc:=aa aC.out 11;have ahd:=aa aC.out 12)|(go_at_call 63;(with_reducible refine (cY.calls bK bU _ _ bN gH bX gI _ _ dO _ _ dP eP true _ ?bk ?bM ?cQ ?fk ?gf ?gh A22.out).mono ?_);(case bk=>repeat (exact (Kd.bD lH.out dY)));(case bM=>exact mA.out);(case cQ=>repeat (exact (Kd.bD uM.out dY)));(case fk=>exact uN.out);(case gf=>repeat (exact (Kd.bD uO.out dY)));(case gh=>exact uP.out);rintro e w30 ⟨rfl,hb⟩;replace iW:=ah.mk (Kd.bG BQ hb);replace aC:=ah.mk (az nH hb);replace HB:=ah.mk (ay dY hb);(try clear hb)))
      go_ret
      exact ⟨by rfl,aJ⟩
     ·replace c23:=Bool.eq_false_iff.mpr c23
      subst c23
      rw [if_neg (show ¬ (false=true) by decide)] at H
      obtain ⟨t227,A31,H⟩:=bd_ H
      obtain rfl:=Option.some.inj H
      go_enter Tryz.func58,Tryz.ntmps58
      go_wp2_with (first|((with_reducible refine bq (N:=1) rfl ?_);refine br ?hg (N:=1) ?hd (cs:=#[.int .u8 bf,.int .i64 bP,.int .i64 cE,.int .i64 bE,.int .i64 bK,.bool bU,.slice cU bN.length cT,.string gH,.string bX,.bool gI,.slice iA dO.length iB,.slice iC dP.length iD,.int .i64 eP]) (t:=46) ?hr ?_;(case hd=>rfl);(case hg=>rfl);(case hr=>(go_simp;done));intro bh hg wW bJ hb;have aC:=ah.mk (bJ);have D3:=ah.mk ((bI:w.heap.size≤bh));have D4:=ah.mk ((bI:w.heap.size≤bh));replace HB:=ah.mk (ay aJ hb);clear hb bJ hg;have Wh:wW.cell? ⟨bh,0,none⟩=some (.int .u8 bf):=(af aC.out 0).trans rfl;have Wi:wW.cell? ⟨bh,1,none⟩=some (.int .i64 bP):=(af aC.out 1).trans rfl;have Wj:wW.cell? ⟨bh,2,none⟩=some (.int .i64 cE):=(af aC.out 2).trans rfl;have Wk:wW.cell? ⟨bh,3,none⟩=some (.int .i64 bE):=(af aC.out 3).trans rfl;have Wl:wW.cell? ⟨bh,4,none⟩=some (.int .i64 bK):=(af aC.out 4).trans rfl;have Wm:wW.cell? ⟨bh,5,none⟩=some (.bool bU):=(af aC.out 5).trans rfl;have Wn:wW.cell? ⟨bh,6,none⟩=some (.slice cU bN.length cT):=(af aC.out 6).trans rfl;have Wo:wW.cell? ⟨bh,7,none⟩=some (.string gH):=(af aC.out 7).trans rfl;have Wp:wW.cell? ⟨bh,8,none⟩=some (.string bX):=(af aC.out 8).trans rfl;have ap4:wW.cell? ⟨bh,9,none⟩=some (.bool gI):=(af aC.out 9).trans rfl;have ahe:wW.cell? ⟨bh,10,none⟩=some (.slice iA dO.length iB):=(af aC.out 10).trans rfl;have ahf:wW.cell? ⟨bh,11,none⟩=some (.slice iC dP.length iD):=(af aC.out 11).trans rfl;have ahg:wW.cell? ⟨bh,12,none⟩=some (.int .i64 eP):=(af aC.out 12).trans rfl;have Wq:=aa aC.out 0;have Ws:=aa aC.out 1;have Wt:=aa aC.out 2;have Wu:=aa aC.out 3;have Wv:=aa aC.out 4;have Ww:=aa aC.out 5;have Wx:=aa aC.out 6;have Wy:=aa aC.out 7;have Wz:=aa aC.out 8;have ap5:=aa aC.out 9;have ahh:=aa aC.out 10;have ahi:=aa aC.out 11;have ahj:=aa aC.out 12)|((with_reducible refine bq (N:=9) rfl ?_);refine Kd.mG (Kd.int .i64) _ 3 ?hg (N:=9) ?hd (xs:=([bP,cE,bE]:List Int)) (inner:=[.int .i64 bP,.int .i64 cE,.int .i64 bE]) (ok:=fun _ =>True) (pN:=fun _ =>True) ?hr ?hp (fun _ hk=>hk) trivial (Below.refl _ _) (Nat.le_refl _) cP ?_;(case hd=>rfl);(case hg=>rfl);(case hr=>(go_simp;done));(case hp=>exact (dK.one (show Kd.M (Kd.int .i64) _ _ _ bP [.int .i64 bP] from rfl) (dK.one (show Kd.M (Kd.int .i64) _ _ _ cE [.int .i64 cE] from rfl) (dK.one (show Kd.M (Kd.int .i64) _ _ _ bE [.int .i64 bE] from rfl) (dK.none _ _)))));intro v222 CL LP hb ru gN;clear ru gN;(rw [← Bq.out] at LP);have iW:=ah.mk (Kd.dW LP (cg aJ));replace aC:=ah.mk (az nH hb);replace HB:=ah.mk (ay aJ hb);clear hb LP;obtain ⟨Hj,Hl,Tv⟩:=Kd.dh iW.out;subst Tv)|((with_reducible refine bH (f:=102) rfl ?_);refine dx (some 10) rfl rfl Tryz.func102 aq rfl #[.slice Hj wk.length Hl] rfl dI ?_;(with_reducible refine (cR.calls k _ _ wk true _ ?bk ?bM A2.out).mono ?_);(case bk=>repeat (exact (Kd.ck iW.out).2.2));(case bM=>exact (Kd.ck iW.out).2.1);rintro e w' ⟨rfl,⟨nd,rfl⟩⟩;refine ⟨_,rfl,?_⟩;have GH:CL.cell? ⟨bh,0,none⟩=some (.int .u8 bf):=(af aC.out 0).trans rfl;have GI:CL.cell? ⟨bh,1,none⟩=some (.int .i64 bP):=(af aC.out 1).trans rfl;have GJ:CL.cell? ⟨bh,2,none⟩=some (.int .i64 cE):=(af aC.out 2).trans rfl;have NR:CL.cell? ⟨bh,3,none⟩=some (.int .i64 bE):=(af aC.out 3).trans rfl;have NS:CL.cell? ⟨bh,4,none⟩=some (.int .i64 bK):=(af aC.out 4).trans rfl;have NT:CL.cell? ⟨bh,5,none⟩=some (.bool bU):=(af aC.out 5).trans rfl;have NU:CL.cell? ⟨bh,6,none⟩=some (.slice cU bN.length cT):=(af aC.out 6).trans rfl;have NV:CL.cell? ⟨bh,7,none⟩=some (.string gH):=(af aC.out 7).trans rfl;have NW:CL.cell? ⟨bh,8,none⟩=some (.string bX):=(af aC.out 8).trans rfl;have ap6:CL.cell? ⟨bh,9,none⟩=some (.bool gI):=(af aC.out 9).trans rfl;have ahk:CL.cell? ⟨bh,10,none⟩=some (.slice iA dO.length iB):=(af aC.out 10).trans rfl;have ahl:CL.cell? ⟨bh,11,none⟩=some (.slice iC dP.length iD):=(af aC.out 11).trans rfl;have ahm:CL.cell? ⟨bh,12,none⟩=some (.int .i64 eP):=(af aC.out 12).trans rfl;have GK:=aa aC.out 0;have GL:=aa aC.out 1;have GM:=aa aC.out 2;have NY:=aa aC.out 3;have NZ:=aa aC.out 4;have N0:=aa aC.out 5;have N1:=aa aC.out 6;have N2:=aa aC.out 7;have N3:=aa aC.out 8;have ap7:=aa aC.out 9;have ahn:=aa aC.out 10;have aho:=aa aC.out 11;have ahp:=aa aC.out 12)|(go_at_call 63;(with_reducible refine (cY.calls bK bU _ _ bN gH bX gI _ _ dO _ _ dP eP false _ ?bk ?bM ?cQ ?fk ?gf ?gh A22.out).mono ?_);(case bk=>repeat (exact (Kd.bD lH.out dY)));(case bM=>exact mA.out);(case cQ=>repeat (exact (Kd.bD uM.out dY)));(case fk=>exact uN.out);(case gf=>repeat (exact (Kd.bD uO.out dY)));(case gh=>exact uP.out);rintro e sN ⟨rfl,hb⟩;replace iW:=ah.mk (Kd.bG BQ hb);replace aC:=ah.mk (az nH hb);replace HB:=ah.mk (ay dY hb);(try clear hb);have ND:sN.cell? ⟨bh,0,none⟩=some (.int .u8 bf):=(af aC.out 0).trans rfl;have NF:sN.cell? ⟨bh,1,none⟩=some (.int .i64 bP):=(af aC.out 1).trans rfl;have NG:sN.cell? ⟨bh,2,none⟩=some (.int .i64 cE):=(af aC.out 2).trans rfl;have WA:sN.cell? ⟨bh,3,none⟩=some (.int .i64 bE):=(af aC.out 3).trans rfl;have WB:sN.cell? ⟨bh,4,none⟩=some (.int .i64 bK):=(af aC.out 4).trans rfl;have WC:sN.cell? ⟨bh,5,none⟩=some (.bool bU):=(af aC.out 5).trans rfl;have WD:sN.cell? ⟨bh,6,none⟩=some (.slice cU bN.length cT):=(af aC.out 6).trans rfl;have WE:sN.cell? ⟨bh,7,none⟩=some (.string gH):=(af aC.out 7).trans rfl;have WG:sN.cell? ⟨bh,8,none⟩=some (.string bX):=(af aC.out 8).trans rfl;have ap8:sN.cell? ⟨bh,9,none⟩=some (.bool gI):=(af aC.out 9).trans rfl;have ahq:sN.cell? ⟨bh,10,none⟩=some (.slice iA dO.length iB):=(af aC.out 10).trans rfl;have ahr:sN.cell? ⟨bh,11,none⟩=some (.slice iC dP.length iD):=(af aC.out 11).trans rfl;have ahs:sN.cell? ⟨bh,12,none⟩=some (.int .i64 eP):=(af aC.out 12).trans rfl;have NH:=aa aC.out 0;have NI:=aa aC.out 1;have NJ:=aa aC.out 2;have WH:=aa aC.out 3;have WI:=aa aC.out 4;have WJ:=aa aC.out 5;have WK:=aa aC.out 6;have WL:=aa aC.out 7;have WM:=aa aC.out 8;have ap9:=aa aC.out 9;have aht:=aa aC.out 10;have ahu:=aa aC.out 11;have ahv:=aa aC.out 12)|(go_at_call 71;(with_reducible refine (fQ.calls k bK bU _ _ bN gH bX gI _ _ dO _ _ dP eP t227 _ ?bk ?bM ?cQ ?fk ?gf ?gh ?lq A31.out).mono ?_);(case bk=>repeat (exact (Kd.bD lH.out HB.out)));(case bM=>exact mA.out);(case cQ=>repeat (exact (Kd.bD uM.out HB.out)));(case fk=>exact uN.out);(case gf=>repeat (exact (Kd.bD uO.out HB.out)));(case gh=>exact uP.out);(case lq=>exact bp.below HG.out aJ);rintro e w40 ⟨rfl,hb⟩;replace iW:=ah.mk (Kd.bG (by exact iW.out) hb);replace aC:=ah.mk (az nH hb);replace HB:=ah.mk (ay aJ hb);(try clear hb)))
      go_ret
      exact ⟨by rfl,aJ⟩
    ·rw [if_neg c21] at H
     have aaH:=beq_eq_false_iff_ne.mpr c21
     have aaI:=bne_iff_ne.mpr c21
     obtain rfl:=Option.some.inj H
     go_enter Tryz.func58,Tryz.ntmps58
     go_wp2_with (first|((with_reducible refine bq (N:=1) rfl ?_);refine br ?hg (N:=1) ?hd (cs:=#[.int .u8 bf,.int .i64 bP,.int .i64 cE,.int .i64 bE,.int .i64 bK,.bool bU,.slice cU bN.length cT,.string gH,.string bX,.bool gI,.slice iA dO.length iB,.slice iC dP.length iD,.int .i64 eP]) (t:=46) ?hr ?_;(case hd=>rfl);(case hg=>rfl);(case hr=>(go_simp;done));intro bh hg DL bJ hb;have aC:=ah.mk (bJ);have D3:=ah.mk ((bI:w.heap.size≤bh));have D4:=ah.mk ((bI:w.heap.size≤bh));replace HB:=ah.mk (ay aJ hb);clear hb bJ hg;have WN:DL.cell? ⟨bh,0,none⟩=some (.int .u8 bf):=(af aC.out 0).trans rfl;have WO:DL.cell? ⟨bh,1,none⟩=some (.int .i64 bP):=(af aC.out 1).trans rfl;have WQ:DL.cell? ⟨bh,2,none⟩=some (.int .i64 cE):=(af aC.out 2).trans rfl;have WR:DL.cell? ⟨bh,3,none⟩=some (.int .i64 bE):=(af aC.out 3).trans rfl;have WS:DL.cell? ⟨bh,4,none⟩=some (.int .i64 bK):=(af aC.out 4).trans rfl;have WT:DL.cell? ⟨bh,5,none⟩=some (.bool bU):=(af aC.out 5).trans rfl;have WU:DL.cell? ⟨bh,6,none⟩=some (.slice cU bN.length cT):=(af aC.out 6).trans rfl;have WV:DL.cell? ⟨bh,7,none⟩=some (.string gH):=(af aC.out 7).trans rfl;have WW:DL.cell? ⟨bh,8,none⟩=some (.string bX):=(af aC.out 8).trans rfl;have aqa:DL.cell? ⟨bh,9,none⟩=some (.bool gI):=(af aC.out 9).trans rfl;have ahw:DL.cell? ⟨bh,10,none⟩=some (.slice iA dO.length iB):=(af aC.out 10).trans rfl;have ahx:DL.cell? ⟨bh,11,none⟩=some (.slice iC dP.length iD):=(af aC.out 11).trans rfl;have ahy:DL.cell? ⟨bh,12,none⟩=some (.int .i64 eP):=(af aC.out 12).trans rfl;have WX:=aa aC.out 0;have WY:=aa aC.out 1;have WZ:=aa aC.out 2;have W4:=aa aC.out 3;have W5:=aa aC.out 4;have W6:=aa aC.out 5;have W7:=aa aC.out 6;have W8:=aa aC.out 7;have W9:=aa aC.out 8;have aqb:=aa aC.out 9;have ahz:=aa aC.out 10;have ahA:=aa aC.out 11;have ahB:=aa aC.out 12)|((with_reducible refine bq (N:=9) rfl ?_);refine Kd.mG (Kd.int .i64) _ 3 ?hg (N:=9) ?hd (xs:=([bP,cE,bE]:List Int)) (inner:=[.int .i64 bP,.int .i64 cE,.int .i64 bE]) (ok:=fun _ =>True) (pN:=fun _ =>True) ?hr ?hp (fun _ hk=>hk) trivial (Below.refl _ _) (Nat.le_refl _) cP ?_;(case hd=>rfl);(case hg=>rfl);(case hr=>(go_simp;done));(case hp=>exact (dK.one (show Kd.M (Kd.int .i64) _ _ _ bP [.int .i64 bP] from rfl) (dK.one (show Kd.M (Kd.int .i64) _ _ _ cE [.int .i64 cE] from rfl) (dK.one (show Kd.M (Kd.int .i64) _ _ _ bE [.int .i64 bE] from rfl) (dK.none _ _)))));intro v222 ry LQ hb ru gN;clear ru gN;(rw [← Bq.out] at LQ);have iW:=ah.mk (Kd.dW LQ (cg aJ));replace aC:=ah.mk (az nH hb);replace HB:=ah.mk (ay aJ hb);clear hb LQ;obtain ⟨aew,aex,abW⟩:=Kd.dh iW.out;subst abW)|((with_reducible refine bH (f:=102) rfl ?_);refine dx (some 10) rfl rfl Tryz.func102 aq rfl #[.slice aew wk.length aex] rfl dI ?_;(with_reducible refine (cR.calls k _ _ wk true _ ?bk ?bM A2.out).mono ?_);(case bk=>repeat (exact (Kd.ck iW.out).2.2));(case bM=>exact (Kd.ck iW.out).2.1);rintro e w' ⟨rfl,⟨nd,rfl⟩⟩;refine ⟨_,rfl,?_⟩;have N4:ry.cell? ⟨bh,0,none⟩=some (.int .u8 bf):=(af aC.out 0).trans rfl;have N5:ry.cell? ⟨bh,1,none⟩=some (.int .i64 bP):=(af aC.out 1).trans rfl;have N6:ry.cell? ⟨bh,2,none⟩=some (.int .i64 cE):=(af aC.out 2).trans rfl;have N7:ry.cell? ⟨bh,3,none⟩=some (.int .i64 bE):=(af aC.out 3).trans rfl;have N8:ry.cell? ⟨bh,4,none⟩=some (.int .i64 bK):=(af aC.out 4).trans rfl;have N9:ry.cell? ⟨bh,5,none⟩=some (.bool bU):=(af aC.out 5).trans rfl;have Oa:ry.cell? ⟨bh,6,none⟩=some (.slice cU bN.length cT):=(af aC.out 6).trans rfl;have Ob:ry.cell? ⟨bh,7,none⟩=some (.string gH):=(af aC.out 7).trans rfl;have Oc:ry.cell? ⟨bh,8,none⟩=some (.string bX):=(af aC.out 8).trans rfl;have aqc:ry.cell? ⟨bh,9,none⟩=some (.bool gI):=(af aC.out 9).trans rfl;have ahC:ry.cell? ⟨bh,10,none⟩=some (.slice iA dO.length iB):=(af aC.out 10).trans rfl;have ahD:ry.cell? ⟨bh,11,none⟩=some (.slice iC dP.length iD):=(af aC.out 11).trans rfl;have ahE:ry.cell? ⟨bh,12,none⟩=some (.int .i64 eP):=(af aC.out 12).trans rfl;have Od:=aa aC.out 0;have Oe:=aa aC.out 1;have Og:=aa aC.out 2;have Oh:=aa aC.out 3;have Oi:=aa aC.out 4;have Oj:=aa aC.out 5;have Ol:=aa aC.out 6;have Om:=aa aC.out 7;have Oo:=aa aC.out 8;have aqd:=aa aC.out 9;have ahF:=aa aC.out 10;have ahG:=aa aC.out 11;have ahH:=aa aC.out 12))
     go_ret
     exact ⟨by rfl,dY⟩
   ·rw [if_neg c20] at H
    have NK:=beq_eq_false_iff_ne.mpr c20
    have NL:=bne_iff_ne.mpr c20
    by_cases c47:bf=2
    ·rw [if_pos c47] at H
     have ahI:=beq_iff_eq.mpr c47
     have ahJ:=bne_eq_false_iff_eq.mpr c47
     clear c47
     obtain ⟨t228,A48,H⟩:=bd_ H
     obtain rfl:=Option.some.inj H
     go_enter Tryz.func58,Tryz.ntmps58
     go_wp2_with (first|((with_reducible refine bq (N:=1) rfl ?_);refine br ?hg (N:=1) ?hd (cs:=#[.int .u8 bf,.int .i64 bP,.int .i64 cE,.int .i64 bE,.int .i64 bK,.bool bU,.slice cU bN.length cT,.string gH,.string bX,.bool gI,.slice iA dO.length iB,.slice iC dP.length iD,.int .i64 eP]) (t:=46) ?hr ?_;(case hd=>rfl);(case hg=>rfl);(case hr=>(go_simp;done));intro bh hg DM bJ hb;have aC:=ah.mk (bJ);have D3:=ah.mk ((bI:w.heap.size≤bh));have D4:=ah.mk ((bI:w.heap.size≤bh));replace HB:=ah.mk (ay aJ hb);clear hb bJ hg;have Xf:DM.cell? ⟨bh,0,none⟩=some (.int .u8 bf):=(af aC.out 0).trans rfl;have Xg:DM.cell? ⟨bh,1,none⟩=some (.int .i64 bP):=(af aC.out 1).trans rfl;have Xh:DM.cell? ⟨bh,2,none⟩=some (.int .i64 cE):=(af aC.out 2).trans rfl;have Xi:DM.cell? ⟨bh,3,none⟩=some (.int .i64 bE):=(af aC.out 3).trans rfl;have Xj:DM.cell? ⟨bh,4,none⟩=some (.int .i64 bK):=(af aC.out 4).trans rfl;have Xk:DM.cell? ⟨bh,5,none⟩=some (.bool bU):=(af aC.out 5).trans rfl;have Xl:DM.cell? ⟨bh,6,none⟩=some (.slice cU bN.length cT):=(af aC.out 6).trans rfl;have Xm:DM.cell? ⟨bh,7,none⟩=some (.string gH):=(af aC.out 7).trans rfl;have Xn:DM.cell? ⟨bh,8,none⟩=some (.string bX):=(af aC.out 8).trans rfl;have aqe:DM.cell? ⟨bh,9,none⟩=some (.bool gI):=(af aC.out 9).trans rfl;have ahK:DM.cell? ⟨bh,10,none⟩=some (.slice iA dO.length iB):=(af aC.out 10).trans rfl;have ahL:DM.cell? ⟨bh,11,none⟩=some (.slice iC dP.length iD):=(af aC.out 11).trans rfl;have ahM:DM.cell? ⟨bh,12,none⟩=some (.int .i64 eP):=(af aC.out 12).trans rfl;have Xo:=aa aC.out 0;have Xp:=aa aC.out 1;have Xq:=aa aC.out 2;have Xr:=aa aC.out 3;have Xt:=aa aC.out 4;have Xu:=aa aC.out 5;have Xv:=aa aC.out 6;have Xw:=aa aC.out 7;have Xx:=aa aC.out 8;have aqf:=aa aC.out 9;have ahN:=aa aC.out 10;have ahO:=aa aC.out 11;have ahP:=aa aC.out 12)|((with_reducible refine bq (N:=9) rfl ?_);refine Kd.mG (Kd.int .i64) _ 3 ?hg (N:=9) ?hd (xs:=([bP,cE,bE]:List Int)) (inner:=[.int .i64 bP,.int .i64 cE,.int .i64 bE]) (ok:=fun _ =>True) (pN:=fun _ =>True) ?hr ?hp (fun _ hk=>hk) trivial (Below.refl _ _) (Nat.le_refl _) cP ?_;(case hd=>rfl);(case hg=>rfl);(case hr=>(go_simp;done));(case hp=>exact (dK.one (show Kd.M (Kd.int .i64) _ _ _ bP [.int .i64 bP] from rfl) (dK.one (show Kd.M (Kd.int .i64) _ _ _ cE [.int .i64 cE] from rfl) (dK.one (show Kd.M (Kd.int .i64) _ _ _ bE [.int .i64 bE] from rfl) (dK.none _ _)))));intro v222 zZ LR hb ru gN;clear ru gN;(rw [← Bq.out] at LR);have iW:=ah.mk (Kd.dW LR (cg aJ));replace aC:=ah.mk (az nH hb);replace HB:=ah.mk (ay aJ hb);clear hb LR;obtain ⟨aey,aez,abX⟩:=Kd.dh iW.out;subst abX)|((with_reducible refine bH (f:=102) rfl ?_);refine dx (some 10) rfl rfl Tryz.func102 aq rfl #[.slice aey wk.length aez] rfl dI ?_;(with_reducible refine (cR.calls k _ _ wk true _ ?bk ?bM A2.out).mono ?_);(case bk=>repeat (exact (Kd.ck iW.out).2.2));(case bM=>exact (Kd.ck iW.out).2.1);rintro e w' ⟨rfl,⟨nd,rfl⟩⟩;refine ⟨_,rfl,?_⟩;have Oq:zZ.cell? ⟨bh,0,none⟩=some (.int .u8 bf):=(af aC.out 0).trans rfl;have Ot:zZ.cell? ⟨bh,1,none⟩=some (.int .i64 bP):=(af aC.out 1).trans rfl;have Xy:zZ.cell? ⟨bh,2,none⟩=some (.int .i64 cE):=(af aC.out 2).trans rfl;have Xz:zZ.cell? ⟨bh,3,none⟩=some (.int .i64 bE):=(af aC.out 3).trans rfl;have XA:zZ.cell? ⟨bh,4,none⟩=some (.int .i64 bK):=(af aC.out 4).trans rfl;have XB:zZ.cell? ⟨bh,5,none⟩=some (.bool bU):=(af aC.out 5).trans rfl;have XC:zZ.cell? ⟨bh,6,none⟩=some (.slice cU bN.length cT):=(af aC.out 6).trans rfl;have XD:zZ.cell? ⟨bh,7,none⟩=some (.string gH):=(af aC.out 7).trans rfl;have XE:zZ.cell? ⟨bh,8,none⟩=some (.string bX):=(af aC.out 8).trans rfl;have aqg:zZ.cell? ⟨bh,9,none⟩=some (.bool gI):=(af aC.out 9).trans rfl;have ahQ:zZ.cell? ⟨bh,10,none⟩=some (.slice iA dO.length iB):=(af aC.out 10).trans rfl;have ahR:zZ.cell? ⟨bh,11,none⟩=some (.slice iC dP.length iD):=(af aC.out 11).trans rfl;have ahS:zZ.cell? ⟨bh,12,none⟩=some (.int .i64 eP):=(af aC.out 12).trans rfl;have Ou:=aa aC.out 0;have Ov:=aa aC.out 1;have XF:=aa aC.out 2;have XG:=aa aC.out 3;have XH:=aa aC.out 4;have XI:=aa aC.out 5;have XJ:=aa aC.out 6;have XK:=aa aC.out 7;have XL:=aa aC.out 8;have aqh:=aa aC.out 9;have ahT:=aa aC.out 10;have ahU:=aa aC.out 11;have ahV:=aa aC.out 12)|((with_reducible refine bH (f:=63) rfl ?_);refine dx (some 52) rfl rfl Tryz.func63 aq rfl #[.agg #[.int .i64 bK,.bool bU,.slice cU bN.length cT,.string gH,.string bX,.bool gI,.slice iA dO.length iB,.slice iC dP.length iD,.int .i64 eP]] rfl dI ?_;(with_reducible refine (cY.calls bK bU _ _ bN gH bX gI _ _ dO _ _ dP eP t228 _ ?bk ?bM ?cQ ?fk ?gf ?gh A48.out).mono ?_);(case bk=>repeat (exact (Kd.bD lH.out dY)));(case bM=>exact mA.out);(case cQ=>repeat (exact (Kd.bD uM.out dY)));(case fk=>exact uN.out);(case gf=>repeat (exact (Kd.bD uO.out dY)));(case gh=>exact uP.out);rintro e UD ⟨rfl,hb⟩;refine ⟨_,rfl,?_⟩;replace iW:=ah.mk (Kd.bG BQ hb);replace aC:=ah.mk (az nH hb);replace HB:=ah.mk (ay dY hb);(try clear hb)))
     go_ret
     exact ⟨by rfl,aJ⟩
    ·rw [if_neg c47] at H
     have ahI:=beq_eq_false_iff_ne.mpr c47
     have ahJ:=bne_iff_ne.mpr c47
     have acO:=ah.mk H
     clear H
     go_enter Tryz.func58,Tryz.ntmps58
     go_upto_if 53 with (first|((with_reducible refine bq (N:=1) rfl ?_);refine br ?hg (N:=1) ?hd (cs:=#[.int .u8 bf,.int .i64 bP,.int .i64 cE,.int .i64 bE,.int .i64 bK,.bool bU,.slice cU bN.length cT,.string gH,.string bX,.bool gI,.slice iA dO.length iB,.slice iC dP.length iD,.int .i64 eP]) (t:=46) ?hr ?_;(case hd=>rfl);(case hg=>rfl);(case hr=>(go_simp;done));intro bh hg PA bJ hb;have aC:=ah.mk (bJ);have D3:=ah.mk ((bI:w.heap.size≤bh));have D4:=ah.mk ((bI:w.heap.size≤bh));replace HB:=ah.mk (ay aJ hb);clear hb bJ hg;have aqi:PA.cell? ⟨bh,0,none⟩=some (.int .u8 bf):=(af aC.out 0).trans rfl;have aqj:PA.cell? ⟨bh,1,none⟩=some (.int .i64 bP):=(af aC.out 1).trans rfl;have aqk:PA.cell? ⟨bh,2,none⟩=some (.int .i64 cE):=(af aC.out 2).trans rfl;have aql:PA.cell? ⟨bh,3,none⟩=some (.int .i64 bE):=(af aC.out 3).trans rfl;have aqm:PA.cell? ⟨bh,4,none⟩=some (.int .i64 bK):=(af aC.out 4).trans rfl;have aqn:PA.cell? ⟨bh,5,none⟩=some (.bool bU):=(af aC.out 5).trans rfl;have aqo:PA.cell? ⟨bh,6,none⟩=some (.slice cU bN.length cT):=(af aC.out 6).trans rfl;have aqp:PA.cell? ⟨bh,7,none⟩=some (.string gH):=(af aC.out 7).trans rfl;have aqq:PA.cell? ⟨bh,8,none⟩=some (.string bX):=(af aC.out 8).trans rfl;have aqr:PA.cell? ⟨bh,9,none⟩=some (.bool gI):=(af aC.out 9).trans rfl;have ahW:PA.cell? ⟨bh,10,none⟩=some (.slice iA dO.length iB):=(af aC.out 10).trans rfl;have ahX:PA.cell? ⟨bh,11,none⟩=some (.slice iC dP.length iD):=(af aC.out 11).trans rfl;have ahY:PA.cell? ⟨bh,12,none⟩=some (.int .i64 eP):=(af aC.out 12).trans rfl;have aqs:=aa aC.out 0;have aqt:=aa aC.out 1;have aqu:=aa aC.out 2;have aqv:=aa aC.out 3;have aqw:=aa aC.out 4;have aqx:=aa aC.out 5;have aqy:=aa aC.out 6;have aqz:=aa aC.out 7;have aqA:=aa aC.out 8;have aqB:=aa aC.out 9;have ahZ:=aa aC.out 10;have ah0:=aa aC.out 11;have ah1:=aa aC.out 12)|((with_reducible refine bq (N:=9) rfl ?_);refine Kd.mG (Kd.int .i64) _ 3 ?hg (N:=9) ?hd (xs:=([bP,cE,bE]:List Int)) (inner:=[.int .i64 bP,.int .i64 cE,.int .i64 bE]) (ok:=fun _ =>True) (pN:=fun _ =>True) ?hr ?hp (fun _ hk=>hk) trivial (Below.refl _ _) (Nat.le_refl _) cP ?_;(case hd=>rfl);(case hg=>rfl);(case hr=>(go_simp;done));(case hp=>exact (dK.one (show Kd.M (Kd.int .i64) _ _ _ bP [.int .i64 bP] from rfl) (dK.one (show Kd.M (Kd.int .i64) _ _ _ cE [.int .i64 cE] from rfl) (dK.one (show Kd.M (Kd.int .i64) _ _ _ bE [.int .i64 bE] from rfl) (dK.none _ _)))));intro v222 QX acP hb ru gN;clear ru gN;(rw [← Bq.out] at acP);have iW:=ah.mk (Kd.dW acP (cg aJ));replace aC:=ah.mk (az nH hb);replace HB:=ah.mk (ay aJ hb);clear hb acP;obtain ⟨axk,axl,axm⟩:=Kd.dh iW.out;subst axm)|((with_reducible refine bH (f:=102) rfl ?_);refine dx (some 10) rfl rfl Tryz.func102 aq rfl #[.slice axk wk.length axl] rfl dI ?_;(with_reducible refine (cR.calls k _ _ wk true _ ?bk ?bM A2.out).mono ?_);(case bk=>repeat (exact (Kd.ck iW.out).2.2));(case bM=>exact (Kd.ck iW.out).2.1);rintro e w' ⟨rfl,⟨nd,rfl⟩⟩;refine ⟨_,rfl,?_⟩;have YE:QX.cell? ⟨bh,0,none⟩=some (.int .u8 bf):=(af aC.out 0).trans rfl;have YF:QX.cell? ⟨bh,1,none⟩=some (.int .i64 bP):=(af aC.out 1).trans rfl;have aqC:QX.cell? ⟨bh,2,none⟩=some (.int .i64 cE):=(af aC.out 2).trans rfl;have aqD:QX.cell? ⟨bh,3,none⟩=some (.int .i64 bE):=(af aC.out 3).trans rfl;have aqE:QX.cell? ⟨bh,4,none⟩=some (.int .i64 bK):=(af aC.out 4).trans rfl;have aqF:QX.cell? ⟨bh,5,none⟩=some (.bool bU):=(af aC.out 5).trans rfl;have aqG:QX.cell? ⟨bh,6,none⟩=some (.slice cU bN.length cT):=(af aC.out 6).trans rfl;have aqH:QX.cell? ⟨bh,7,none⟩=some (.string gH):=(af aC.out 7).trans rfl;have aqI:QX.cell? ⟨bh,8,none⟩=some (.string bX):=(af aC.out 8).trans rfl;have aqJ:QX.cell? ⟨bh,9,none⟩=some (.bool gI):=(af aC.out 9).trans rfl;have ah2:QX.cell? ⟨bh,10,none⟩=some (.slice iA dO.length iB):=(af aC.out 10).trans rfl;have ah3:QX.cell? ⟨bh,11,none⟩=some (.slice iC dP.length iD):=(af aC.out 11).trans rfl;have ah4:QX.cell? ⟨bh,12,none⟩=some (.int .i64 eP):=(af aC.out 12).trans rfl;have YG:=aa aC.out 0;have YH:=aa aC.out 1;have aqK:=aa aC.out 2;have aqL:=aa aC.out 3;have aqM:=aa aC.out 4;have aqN:=aa aC.out 5;have aqO:=aa aC.out 6;have aqP:=aa aC.out 7;have aqQ:=aa aC.out 8;have aqR:=aa aC.out 9;have ah5:=aa aC.out 10;have ah6:=aa aC.out 11;have ah7:=aa aC.out 12))
     go_cut [53] (fun v53 wc=>∃ (kq:Nat) (IB:Bool),v53= .bool IB∧ah (cK.j0 kq bf IB bf bP cE bE bK bU bN gH bX gI dO dP eP=some r)∧ah (kq≤k)∧ah (wc.heap[bh]? =some (.cells #[.int .u8 bf,.int .i64 bP,.int .i64 cE,.int .i64 bE,.int .i64 bK,.bool bU,(.slice cU bN.length cT),.string gH,.string bX,.bool gI,(.slice iA dO.length iB),(.slice iC dP.length iD),.int .i64 eP] 46 (0,0)))∧ah (Below w.heap.size w wc))
     case first=>
      have H:=acO.out
      clear acO
      by_cases c63:bf=3
      ·rw [if_pos c63] at H
       have TQ:=beq_iff_eq.mpr c63
       have ah8:=bne_eq_false_iff_eq.mpr c63
       clear c63
       (rw [TQ])
       have H':=ah.mk H
       clear H
       go_wp2
       go_meet
       case rel=>exact ⟨_,((bf == 3)),(by (simp [*];done)),H',⟨aA⟩,⟨M8⟩,⟨dY⟩⟩
      ·rw [if_neg c63] at H
       have TQ:=beq_eq_false_iff_ne.mpr c63
       have ah8:=bne_iff_ne.mpr c63
       (rw [TQ])
       have H':=ah.mk H
       clear H
       go_wp2
       go_meet
       case rel=>exact ⟨_,((bf == 4)),(by rfl),H',⟨aA⟩,⟨M8⟩,⟨dY⟩⟩
     case rest=>
      clear acO
      obtain ⟨kq,IB,rfl,HA,aCZ,aC,HB⟩:=hcut
      cases kq with
      |zero=>exact absurd HA.out (by simp [cK.j0])
      |succ aC0=>
       have H:=HA.out
       clear HA
       simp only [cK.j0] at H
       by_cases c64:IB=true
       ·subst c64
        rw [if_pos rfl] at H
        by_cases c65:bE=0
        ·rw [if_pos c65] at H
         have ah9:=beq_iff_eq.mpr c65
         have aia:=bne_eq_false_iff_eq.mpr c65
         clear c65
         obtain ⟨t229,A66,H⟩:=bd_ H
         obtain rfl:=Option.some.inj H
         have aqT:wc.cell? ⟨bh,0,none⟩=some (.int .u8 bf):=(af aC.out 0).trans rfl
         have aqU:wc.cell? ⟨bh,1,none⟩=some (.int .i64 bP):=(af aC.out 1).trans rfl
         have aqV:wc.cell? ⟨bh,2,none⟩=some (.int .i64 cE):=(af aC.out 2).trans rfl
         have aqW:wc.cell? ⟨bh,3,none⟩=some (.int .i64 bE):=(af aC.out 3).trans rfl
         have aqX:wc.cell? ⟨bh,4,none⟩=some (.int .i64 bK):=(af aC.out 4).trans rfl
         have aqY:wc.cell? ⟨bh,5,none⟩=some (.bool bU):=(af aC.out 5).trans rfl
         have aqZ:wc.cell? ⟨bh,6,none⟩=some (.slice cU bN.length cT):=(af aC.out 6).trans rfl
         have aq0:wc.cell? ⟨bh,7,none⟩=some (.string gH):=(af aC.out 7).trans rfl
         have aq1:wc.cell? ⟨bh,8,none⟩=some (.string bX):=(af aC.out 8).trans rfl
         have aq2:wc.cell? ⟨bh,9,none⟩=some (.bool gI):=(af aC.out 9).trans rfl
         have aib:wc.cell? ⟨bh,10,none⟩=some (.slice iA dO.length iB):=(af aC.out 10).trans rfl
         have aic:wc.cell? ⟨bh,11,none⟩=some (.slice iC dP.length iD):=(af aC.out 11).trans rfl
         have aid:wc.cell? ⟨bh,12,none⟩=some (.int .i64 eP):=(af aC.out 12).trans rfl
         have aq3:=aa aC.out 0
         have aq4:=aa aC.out 1
         have aq5:=aa aC.out 2
         have aq6:=aa aC.out 3
         have aq7:=aa aC.out 4
         have aq8:=aa aC.out 5
         have aq9:=aa aC.out 6
         have ara:=aa aC.out 7
         have arb:=aa aC.out 8
         have arc:=aa aC.out 9
         have aie:=aa aC.out 10
         have aif:=aa aC.out 11
         have aih:=aa aC.out 12
         go_wp2_with ((go_at_call 63;(with_reducible refine (cY.calls bK bU _ _ bN gH bX gI _ _ dO _ _ dP eP t229 _ ?bk ?bM ?cQ ?fk ?gf ?gh A66.out).mono ?_);(case bk=>repeat (exact (Kd.bD lH.out HB.out)));(case bM=>exact mA.out);(case cQ=>repeat (exact (Kd.bD uM.out HB.out)));(case fk=>exact uN.out);(case gf=>repeat (exact (Kd.bD uO.out HB.out)));(case gh=>exact uP.out);rintro e w68 ⟨rfl,hb⟩;replace aC:=ah.mk (az nH hb);replace HB:=ah.mk (ay aJ hb);(try clear hb)))
         go_ret
         exact ⟨by rfl,aJ⟩
        ·rw [if_neg c65] at H
         have ah9:=beq_eq_false_iff_ne.mpr c65
         have aia:=bne_iff_ne.mpr c65
         obtain rfl:=Option.some.inj H
         have ard:wc.cell? ⟨bh,0,none⟩=some (.int .u8 bf):=(af aC.out 0).trans rfl
         have arf:wc.cell? ⟨bh,1,none⟩=some (.int .i64 bP):=(af aC.out 1).trans rfl
         have arh:wc.cell? ⟨bh,2,none⟩=some (.int .i64 cE):=(af aC.out 2).trans rfl
         have ari:wc.cell? ⟨bh,3,none⟩=some (.int .i64 bE):=(af aC.out 3).trans rfl
         have arj:wc.cell? ⟨bh,4,none⟩=some (.int .i64 bK):=(af aC.out 4).trans rfl
         have ark:wc.cell? ⟨bh,5,none⟩=some (.bool bU):=(af aC.out 5).trans rfl
         have arl:wc.cell? ⟨bh,6,none⟩=some (.slice cU bN.length cT):=(af aC.out 6).trans rfl
         have arn:wc.cell? ⟨bh,7,none⟩=some (.string gH):=(af aC.out 7).trans rfl
         have aro:wc.cell? ⟨bh,8,none⟩=some (.string bX):=(af aC.out 8).trans rfl
         have arp:wc.cell? ⟨bh,9,none⟩=some (.bool gI):=(af aC.out 9).trans rfl
         have aii:wc.cell? ⟨bh,10,none⟩=some (.slice iA dO.length iB):=(af aC.out 10).trans rfl
         have aij:wc.cell? ⟨bh,11,none⟩=some (.slice iC dP.length iD):=(af aC.out 11).trans rfl
         have aik:wc.cell? ⟨bh,12,none⟩=some (.int .i64 eP):=(af aC.out 12).trans rfl
         have arq:=aa aC.out 0
         have ars:=aa aC.out 1
         have art:=aa aC.out 2
         have aru:=aa aC.out 3
         have arv:=aa aC.out 4
         have arw:=aa aC.out 5
         have arx:=aa aC.out 6
         have ary:=aa aC.out 7
         have arz:=aa aC.out 8
         have arA:=aa aC.out 9
         have ail:=aa aC.out 10
         have aim:=aa aC.out 11
         have ain:=aa aC.out 12
         go_wp2
         go_ret
         exact ⟨by rfl,aJ⟩
       ·replace c64:=Bool.eq_false_iff.mpr c64
        subst c64
        rw [if_neg (show ¬ (false=true) by decide)] at H
        by_cases c70:bf=6
        ·rw [if_pos c70] at H
         have aio:=beq_iff_eq.mpr c70
         have aip:=bne_eq_false_iff_eq.mpr c70
         clear c70
         by_cases c71:(wrap64 (cE + bE))=0
         ·rw [if_pos c71] at H
          have aiq:=beq_iff_eq.mpr c71
          have air:=bne_eq_false_iff_eq.mpr c71
          clear c71
          obtain ⟨t230,A72,H⟩:=bd_ H
          obtain rfl:=Option.some.inj H
          have arB:wc.cell? ⟨bh,0,none⟩=some (.int .u8 bf):=(af aC.out 0).trans rfl
          have arC:wc.cell? ⟨bh,1,none⟩=some (.int .i64 bP):=(af aC.out 1).trans rfl
          have arD:wc.cell? ⟨bh,2,none⟩=some (.int .i64 cE):=(af aC.out 2).trans rfl
          have arE:wc.cell? ⟨bh,3,none⟩=some (.int .i64 bE):=(af aC.out 3).trans rfl
          have arF:wc.cell? ⟨bh,4,none⟩=some (.int .i64 bK):=(af aC.out 4).trans rfl
          have arG:wc.cell? ⟨bh,5,none⟩=some (.bool bU):=(af aC.out 5).trans rfl
          have arH:wc.cell? ⟨bh,6,none⟩=some (.slice cU bN.length cT):=(af aC.out 6).trans rfl
          have arI:wc.cell? ⟨bh,7,none⟩=some (.string gH):=(af aC.out 7).trans rfl
          have arJ:wc.cell? ⟨bh,8,none⟩=some (.string bX):=(af aC.out 8).trans rfl
          have arK:wc.cell? ⟨bh,9,none⟩=some (.bool gI):=(af aC.out 9).trans rfl
          have ais:wc.cell? ⟨bh,10,none⟩=some (.slice iA dO.length iB):=(af aC.out 10).trans rfl
          have ait:wc.cell? ⟨bh,11,none⟩=some (.slice iC dP.length iD):=(af aC.out 11).trans rfl
          have aiu:wc.cell? ⟨bh,12,none⟩=some (.int .i64 eP):=(af aC.out 12).trans rfl
          have arL:=aa aC.out 0
          have arM:=aa aC.out 1
          have arN:=aa aC.out 2
          have arO:=aa aC.out 3
          have arP:=aa aC.out 4
          have arQ:=aa aC.out 5
          have arR:=aa aC.out 6
          have arS:=aa aC.out 7
          have arT:=aa aC.out 8
          have arU:=aa aC.out 9
          have aiv:=aa aC.out 10
          have aiw:=aa aC.out 11
          have aix:=aa aC.out 12
          go_wp2_with ((go_at_call 63;(with_reducible refine (cY.calls bK bU _ _ bN gH bX gI _ _ dO _ _ dP eP t230 _ ?bk ?bM ?cQ ?fk ?gf ?gh A72.out).mono ?_);(case bk=>repeat (exact (Kd.bD lH.out HB.out)));(case bM=>exact mA.out);(case cQ=>repeat (exact (Kd.bD uM.out HB.out)));(case fk=>exact uN.out);(case gf=>repeat (exact (Kd.bD uO.out HB.out)));(case gh=>exact uP.out);rintro e w74 ⟨rfl,hb⟩;replace aC:=ah.mk (az nH hb);replace HB:=ah.mk (ay aJ hb);(try clear hb)))
          go_ret
          exact ⟨by rfl,aJ⟩
         ·rw [if_neg c71] at H
          have aiq:=beq_eq_false_iff_ne.mpr c71
          have air:=bne_iff_ne.mpr c71
          obtain rfl:=Option.some.inj H
          have arV:wc.cell? ⟨bh,0,none⟩=some (.int .u8 bf):=(af aC.out 0).trans rfl
          have arW:wc.cell? ⟨bh,1,none⟩=some (.int .i64 bP):=(af aC.out 1).trans rfl
          have arX:wc.cell? ⟨bh,2,none⟩=some (.int .i64 cE):=(af aC.out 2).trans rfl
          have arY:wc.cell? ⟨bh,3,none⟩=some (.int .i64 bE):=(af aC.out 3).trans rfl
          have arZ:wc.cell? ⟨bh,4,none⟩=some (.int .i64 bK):=(af aC.out 4).trans rfl
          have ar0:wc.cell? ⟨bh,5,none⟩=some (.bool bU):=(af aC.out 5).trans rfl
          have ar1:wc.cell? ⟨bh,6,none⟩=some (.slice cU bN.length cT):=(af aC.out 6).trans rfl
          have ar2:wc.cell? ⟨bh,7,none⟩=some (.string gH):=(af aC.out 7).trans rfl
          have ar3:wc.cell? ⟨bh,8,none⟩=some (.string bX):=(af aC.out 8).trans rfl
          have ar4:wc.cell? ⟨bh,9,none⟩=some (.bool gI):=(af aC.out 9).trans rfl
          have aiy:wc.cell? ⟨bh,10,none⟩=some (.slice iA dO.length iB):=(af aC.out 10).trans rfl
          have aiz:wc.cell? ⟨bh,11,none⟩=some (.slice iC dP.length iD):=(af aC.out 11).trans rfl
          have aiA:wc.cell? ⟨bh,12,none⟩=some (.int .i64 eP):=(af aC.out 12).trans rfl
          have ar5:=aa aC.out 0
          have ar6:=aa aC.out 1
          have ar7:=aa aC.out 2
          have ar8:=aa aC.out 3
          have ar9:=aa aC.out 4
          have asa:=aa aC.out 5
          have asb:=aa aC.out 6
          have asc:=aa aC.out 7
          have ase:=aa aC.out 8
          have asf:=aa aC.out 9
          have aiB:=aa aC.out 10
          have aiC:=aa aC.out 11
          have aiD:=aa aC.out 12
          go_wp2
          go_ret
          exact ⟨by rfl,aJ⟩
        ·rw [if_neg c70] at H
         have aio:=beq_eq_false_iff_ne.mpr c70
         have aip:=bne_iff_ne.mpr c70
         obtain rfl:=Option.some.inj H
         go_wp2
         go_ret
         exact ⟨by rfl,aJ⟩
 ·replace c3:=Bool.eq_false_iff.mpr c3
  subst c3
  rw [if_neg (show ¬ (false=true) by decide)] at H
  obtain rfl:=Option.some.inj H
  go_enter Tryz.func58,Tryz.ntmps58
  go_wp2_with (first|((with_reducible refine bq (N:=1) rfl ?_);refine br ?hg (N:=1) ?hd (cs:=#[.int .u8 bf,.int .i64 bP,.int .i64 cE,.int .i64 bE,.int .i64 bK,.bool bU,.slice cU bN.length cT,.string gH,.string bX,.bool gI,.slice iA dO.length iB,.slice iC dP.length iD,.int .i64 eP]) (t:=46) ?hr ?_;(case hd=>rfl);(case hg=>rfl);(case hr=>(go_simp;done));intro bh hg QY bJ hb;have aC:=ah.mk (bJ);have D3:=ah.mk ((bI:w.heap.size≤bh));have D4:=ah.mk ((bI:w.heap.size≤bh));replace HB:=ah.mk (ay aJ hb);clear hb bJ hg;have asg:QY.cell? ⟨bh,0,none⟩=some (.int .u8 bf):=(af aC.out 0).trans rfl;have ash:QY.cell? ⟨bh,1,none⟩=some (.int .i64 bP):=(af aC.out 1).trans rfl;have asi:QY.cell? ⟨bh,2,none⟩=some (.int .i64 cE):=(af aC.out 2).trans rfl;have asj:QY.cell? ⟨bh,3,none⟩=some (.int .i64 bE):=(af aC.out 3).trans rfl;have asl:QY.cell? ⟨bh,4,none⟩=some (.int .i64 bK):=(af aC.out 4).trans rfl;have asn:QY.cell? ⟨bh,5,none⟩=some (.bool bU):=(af aC.out 5).trans rfl;have aso:QY.cell? ⟨bh,6,none⟩=some (.slice cU bN.length cT):=(af aC.out 6).trans rfl;have asp:QY.cell? ⟨bh,7,none⟩=some (.string gH):=(af aC.out 7).trans rfl;have asq:QY.cell? ⟨bh,8,none⟩=some (.string bX):=(af aC.out 8).trans rfl;have asr:QY.cell? ⟨bh,9,none⟩=some (.bool gI):=(af aC.out 9).trans rfl;have aiE:QY.cell? ⟨bh,10,none⟩=some (.slice iA dO.length iB):=(af aC.out 10).trans rfl;have aiF:QY.cell? ⟨bh,11,none⟩=some (.slice iC dP.length iD):=(af aC.out 11).trans rfl;have aiG:QY.cell? ⟨bh,12,none⟩=some (.int .i64 eP):=(af aC.out 12).trans rfl;have ast:=aa aC.out 0;have asu:=aa aC.out 1;have asv:=aa aC.out 2;have asw:=aa aC.out 3;have asx:=aa aC.out 4;have asy:=aa aC.out 5;have asz:=aa aC.out 6;have asA:=aa aC.out 7;have asB:=aa aC.out 8;have asC:=aa aC.out 9;have aiH:=aa aC.out 10;have aiI:=aa aC.out 11;have aiJ:=aa aC.out 12)|((with_reducible refine bq (N:=9) rfl ?_);refine Kd.mG (Kd.int .i64) _ 3 ?hg (N:=9) ?hd (xs:=([bP,cE,bE]:List Int)) (inner:=[.int .i64 bP,.int .i64 cE,.int .i64 bE]) (ok:=fun _ =>True) (pN:=fun _ =>True) ?hr ?hp (fun _ hk=>hk) trivial (Below.refl _ _) (Nat.le_refl _) cP ?_;(case hd=>rfl);(case hg=>rfl);(case hr=>(go_simp;done));(case hp=>exact (dK.one (show Kd.M (Kd.int .i64) _ _ _ bP [.int .i64 bP] from rfl) (dK.one (show Kd.M (Kd.int .i64) _ _ _ cE [.int .i64 cE] from rfl) (dK.one (show Kd.M (Kd.int .i64) _ _ _ bE [.int .i64 bE] from rfl) (dK.none _ _)))));intro v222 UF acT hb ru gN;clear ru gN;(rw [← Bq.out] at acT);have iW:=ah.mk (Kd.dW acT (cg aJ));replace aC:=ah.mk (az nH hb);replace HB:=ah.mk (ay aJ hb);clear hb acT;obtain ⟨axn,axo,axp⟩:=Kd.dh iW.out;subst axp)|((with_reducible refine bH (f:=102) rfl ?_);refine dx (some 10) rfl rfl Tryz.func102 aq rfl #[.slice axn wk.length axo] rfl dI ?_;(with_reducible refine (cR.calls k _ _ wk false _ ?bk ?bM A2.out).mono ?_);(case bk=>repeat (exact (Kd.ck iW.out).2.2));(case bM=>exact (Kd.ck iW.out).2.1);rintro e w' ⟨rfl,⟨nd,rfl⟩⟩;refine ⟨_,rfl,?_⟩))
  go_ret
  exact ⟨by rfl,dY⟩
end Go.Proofs.YtbjjaaodfbjkfaaGreatDoor.mN
