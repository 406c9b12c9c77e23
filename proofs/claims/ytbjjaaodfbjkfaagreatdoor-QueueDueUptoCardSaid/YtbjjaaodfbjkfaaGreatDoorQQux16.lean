import Derived.Test.YtbjjaaodfbjkfaaGreatDoorQQux15
set_option maxHeartbeats 8000000
set_option maxRecDepth 100000
namespace Go.Proofs.YtbjjaaodfbjkfaaGreatDoor.ow
open Go.RowKit Go.Proofs.YtbjjaaodfbjkfaaGreatDoor.zi Go.Proofs.ak.bY Go.Proofs.ak.dU Go.Proofs.ak.dJ
attribute [local go_sem] jt ju kH kI iw iy jv jw
set_option linter.unusedVariables false
set_option linter.unusedSimpArgs false
attribute [local go_sem high] Q6
def ck.l0:Nat→List Int→List Int→Int→Int→Option (Bool)
 | 0,_,_,_,_ =>none
 |k + 1,x0,x1,wQ,nX=>if nX < wQ then (if 0≤nX then (if nX < (x0.length:Int) then (if nX < (x1.length:Int) then (if (rd x0 nX)=(rd x1 nX) then (ck.l0 k x0 x1 wQ (wrap64 (nX + 1))) else (some false)) else (none)) else (none)) else (none)) else (some true)
def ck.f (k:Nat) (l0:List Int) (l1:List Int):Option (Bool):=if (l0.length:Int)=(l1.length:Int) then (ck.l0 k l0 l1 (l0.length:Int) 0) else (some false)
theorem ck.eY:∀ k,(∀ y0 y1 y2 y3,fP (ck.l0 k y0 y1 y2 y3) (ck.l0 (k + 1) y0 y1 y2 y3))
 | 0=>fun _ _ _ _ r h=>by simp [ck.l0] at h
 |k + 1=>by
  have nY:=ck.eY k
  ·intro y0 y1 y2 y3
   unfold ck.l0
   repeat' (with_reducible first|exact nY _ _ _ _|exact fP.refl _|refine fP.ite ?_ ?_)
theorem ck.mono:∀ a0 a1 k,fP (ck.f k a0 a1) (ck.f (k + 1) a0 a1):=by
 intro a0 a1 k
 have nY:=ck.eY k
 unfold ck.f
 repeat' (with_reducible first|exact nY _ _ _ _|exact fP.refl _|refine fP.ite ?_ ?_)
theorem ck.calls (k:Nat) (A0:Option Addr) (c0:Nat) (l0:List Int) (A1:Option Addr) (c1:Nat) (l1:List Int) (r:Bool) (w:World) (nZ:Kd.C (Kd.int .u8) w A0 l0.length l0) (hc0:l0.length≤c0) (hr1:Kd.C (Kd.int .u8) w A1 l1.length l1) (hc1:l1.length≤c1) (h:ck.f k l0 l1=some r):
 Calls Tryz.prog 116 #[.slice A0 l0.length c0,.slice A1 l1.length c1] w fun e w'=>e= .returned (.bool r)∧ia w w':=by
 have qN:=ah.mk nZ
 have Eg:=ah.mk hc0
 clear nZ hc0
 have Cy:=ah.mk hr1
 have HC1:=ah.mk hc1
 clear hr1 hc1
 have H:(if (l0.length:Int)=(l1.length:Int) then (ck.l0 k l0 l1 (l0.length:Int) 0) else (some false))=some r:=h
 clear h
 by_cases c3:(l0.length:Int)=(l1.length:Int)
 ·rw [if_pos c3] at H
  have nT:=beq_iff_eq.mpr c3
  have tZ:=bne_eq_false_iff_eq.mpr c3
  have Fa:(l0.length == l1.length)=true:=by (simp at c3 ⊢;omega)
  clear c3
  have H':=ah.mk H
  clear H
  go_enter Tryz.func116,Tryz.ntmps116
  go_wp2
  repeat (go_quiet (fail);skip)
  go_loopg [13] k (fun kq v13 w'=>∃ (bp:Int),v13= .int .i64 bp∧ah (ck.l0 kq l0 l1 (l0.length:Int) bp=some r)∧ah (kq≤k)∧ia w w')
  case atStart=>exact ⟨(0),(by rfl),H',⟨Nat.le_refl _⟩,mj⟩
  case round=>
   clear H'
   obtain ⟨bp,rfl,HA,oI,⟨m1,rfl⟩⟩:=hrel
   cases gk with
   |zero=>exact absurd HA.out (by simp [ck.l0])
   |succ k1=>
    have H:=HA.out
    clear HA
    simp only [ck.l0] at H
    by_cases c4:bp < (l0.length:Int)
    ·rw [if_pos c4] at H
     have ng:=decide_eq_true c4
     clear c4
     obtain ⟨c5,H⟩:=lg H
     have qu:=decide_eq_true c5
     clear c5
     obtain ⟨c6,H⟩:=lg H
     have xm:=decide_eq_true c6
     clear c6
     obtain ⟨c7,H⟩:=lg H
     have E1:=decide_eq_true c7
     clear c7
     by_cases c8:(rd l0 bp)=(rd l1 bp)
     ·rw [if_pos c8] at H
      have yB:=beq_iff_eq.mpr c8
      have Jy:=bne_eq_false_iff_eq.mpr c8
      clear c8
      have H':=ah.mk H
      clear H
      have OC: 0≤(bp:Int):=of_decide_eq_true cL
      have OD:bp < (l0.length:Int):=of_decide_eq_true cL
      obtain ⟨anN,e287,acY⟩:=Kd.qB qN.out bp OC OD
      cases e287
      replace OC:=eq_true OC
      replace OD:=eq_true OD
      have OE: 0≤(bp:Int):=of_decide_eq_true cL
      have OG:bp < (l1.length:Int):=of_decide_eq_true cL
      obtain ⟨anO,ahl,acZ⟩:=Kd.qB Cy.out bp OE OG
      cases ahl
      replace OE:=eq_true OE
      replace OG:=eq_true OG
      go_wp2
      repeat (go_quiet (fail);try go_wp2)
      go_roundg k1
      case measure=>have:=oI.out;omega
      case rel=>exact ⟨(wrap64 (bp + 1)),(by rfl),H',⟨lS⟩,jl⟩
     ·rw [if_neg c8] at H
      have yB:=beq_eq_false_iff_ne.mpr c8
      have Jy:=bne_iff_ne.mpr c8
      obtain rfl:=Option.some.inj H
      have OC: 0≤(bp:Int):=of_decide_eq_true cL
      have OD:bp < (l0.length:Int):=of_decide_eq_true cL
      obtain ⟨anN,e287,acY⟩:=Kd.qB qN.out bp OC OD
      cases e287
      replace OC:=eq_true OC
      replace OD:=eq_true OD
      have OE: 0≤(bp:Int):=of_decide_eq_true cL
      have OG:bp < (l1.length:Int):=of_decide_eq_true cL
      obtain ⟨anO,ahl,acZ⟩:=Kd.qB Cy.out bp OE OG
      cases ahl
      replace OE:=eq_true OE
      replace OG:=eq_true OG
      go_wp2
      repeat (go_quiet (fail);try go_wp2)
      go_ret
      exact ⟨by rfl,jl⟩
    ·rw [if_neg c4] at H
     have ng:=decide_eq_false c4
     clear c4
     obtain rfl:=Option.some.inj H
     go_wp2
     repeat (go_quiet (fail);skip)
     go_ret
     exact ⟨by rfl,jl⟩
 ·rw [if_neg c3] at H
  have nT:=beq_eq_false_iff_ne.mpr c3
  have tZ:=bne_iff_ne.mpr c3
  have Fa:(l0.length == l1.length)=false:=by (simp at c3 ⊢;omega)
  obtain rfl:=Option.some.inj H
  go_enter Tryz.func116,Tryz.ntmps116
  go_wp2
  repeat (go_quiet (fail);skip)
  go_ret
  exact ⟨by rfl,mj⟩
def iJ.f (k:Nat) (bu:Int) (bX:Bool) (cQ:List ByteArray) (bL:ByteArray) (bQ:ByteArray) (b9:Bool) (bT:List (jN)) (cY:List Int) (cg:Int) (jh:Int) (jL:Bool) (lW:List ByteArray) (jB:ByteArray) (ji:ByteArray) (jk:Bool) (je:List (jN)) (mJ:List Int) (ke:Int):Option (Bool):=if bu=jh then (if cg=ke then (if (bX == jL)=true then (if (bL.toList == jB.toList && (bQ.toList == ji.toList && (b9 == jk)))=true then ((bP.f k cQ lW).bind fun t291=>(if t291=true then ((bF.f k bT je).bind fun t292=>(if t292=true then ((ck.f k cY mJ).bind fun t293=>(some t293)) else (some false))) else (some false))) else (some false)) else (some false)) else (some false)) else (some false)
theorem iJ.mono:∀ a0 a1 a2 a3 a4 a5 a6 a7 a8 a9 XR XS a12 a13 a14 a15 a16 a17 k,fP (iJ.f k a0 a1 a2 a3 a4 a5 a6 a7 a8 a9 XR XS a12 a13 a14 a15 a16 a17) (iJ.f (k + 1) a0 a1 a2 a3 a4 a5 a6 a7 a8 a9 XR XS a12 a13 a14 a15 a16 a17):=by
 intro a0 a1 a2 a3 a4 a5 a6 a7 a8 a9 XR XS a12 a13 a14 a15 a16 a17 k
 unfold iJ.f
 repeat' (with_reducible first|exact bF.mono _ _ _|exact ck.mono _ _ _|exact bP.mono _ _ _|exact fP.refl _|refine fP.ite ?_ ?_|refine fP.bind ?_ (fun _ =>?_))
theorem iJ.calls (k:Nat) (bu:Int) (bX:Bool) (eK:Option Addr) (eN:Nat) (cQ:List ByteArray) (bL:ByteArray) (bQ:ByteArray) (b9:Bool) (dA:Option Addr) (dw:Nat) (bT:List (jN)) (eO:Option Addr) (eP:Nat) (cY:List Int) (cg:Int) (jh:Int) (jL:Bool) (pP:Option Addr) (pQ:Nat) (lW:List ByteArray) (jB:ByteArray) (ji:ByteArray) (jk:Bool) (nv:Option Addr) (ny:Nat) (je:List (jN)) (pR:Option Addr) (pS:Nat) (mJ:List Int) (ke:Int) (r:Bool) (w:World) (rD:Kd.C Kd.string w eK cQ.length cQ) (rE:cQ.length≤eN) (oc:Kd.C sN w dA bT.length bT) (oG:bT.length≤dw) (rF:Kd.C (Kd.int .u8) w eO cY.length cY) (rG:cY.length≤eP) (Mq:Kd.C Kd.string w pP lW.length lW) (Mr:lW.length≤pQ) (AB:Kd.C sN w nv je.length je) (AE:je.length≤ny) (Ms:Kd.C (Kd.int .u8) w pR mJ.length mJ) (Mt:mJ.length≤pS) (h:iJ.f k bu bX cQ bL bQ b9 bT cY cg jh jL lW jB ji jk je mJ ke=some r):
 Calls Tryz.prog 70 #[.agg #[.int .i64 bu,.bool bX,.slice eK cQ.length eN,.string bL,.string bQ,.bool b9,.slice dA bT.length dw,.slice eO cY.length eP,.int .i64 cg],.agg #[.int .i64 jh,.bool jL,.slice pP lW.length pQ,.string jB,.string ji,.bool jk,.slice nv je.length ny,.slice pR mJ.length pS,.int .i64 ke]] w fun e w'=>e= .returned (.bool r)∧Below w.heap.size w w':=by
 have CM:=Tryz.underlying34
 have LW:=Tryz.underlying29
 have og:=ah.mk rD
 have om:=ah.mk rE
 clear rD rE
 have mQ:=ah.mk oc
 have nW:=ah.mk oG
 clear oc oG
 have xp:=ah.mk rF
 have xq:=ah.mk rG
 clear rF rG
 have Tw:=ah.mk Mq
 have Tx:=ah.mk Mr
 clear Mq Mr
 have X4:=ah.mk AB
 have X5:=ah.mk AE
 clear AB AE
 have ae4:=ah.mk Ms
 have ae5:=ah.mk Mt
 clear Ms Mt
 have HB:=ah.mk (Below.refl w.heap.size w)
 have H:(if bu=jh then (if cg=ke then (if (bX == jL)=true then (if (bL.toList == jB.toList && (bQ.toList == ji.toList && (b9 == jk)))=true then ((bP.f k cQ lW).bind fun t291=>(if t291=true then ((bF.f k bT je).bind fun t292=>(if t292=true then ((ck.f k cY mJ).bind fun t293=>(some t293)) else (some false))) else (some false))) else (some false)) else (some false)) else (some false)) else (some false))=some r:=h
 clear h
 by_cases c3:bu=jh
 ·rw [if_pos c3] at H
  have nT:=beq_iff_eq.mpr c3
  have tZ:=bne_eq_false_iff_eq.mpr c3
  clear c3
  by_cases c4:cg=ke
  ·rw [if_pos c4] at H
   have ng:=beq_iff_eq.mpr c4
   have BC:=bne_eq_false_iff_eq.mpr c4
   clear c4
   by_cases c5:(bX == jL)=true
   ·rw [if_pos c5] at H
    have qu:(bX == jL)=true:=c5
    (try (have N6:decide (bX=jL)=true:=by simpa using c5))
    (try (have aDI:(bX == jL)=true:=by simpa using c5))
    clear c5
    by_cases c6:(bL.toList == jB.toList && (bQ.toList == ji.toList && (b9 == jk)))=true
    ·rw [if_pos c6] at H
     have xm:(bL.toList == jB.toList && (bQ.toList == ji.toList && (b9 == jk)))=true:=c6
     (try (have UX:decide (bL.toList=jB.toList && (bQ.toList == ji.toList && (b9 == jk)))=true:=by simpa using c6))
     (try (have aDJ:(bL.toList == jB.toList && (bQ.toList == ji.toList && (b9 == jk)))=true:=by simpa using c6))
     clear c6
     obtain ⟨t291,A7,H⟩:=bd_ H
     by_cases c8:t291=true
     ·subst c8
      rw [if_pos rfl] at H
      obtain ⟨t292,A9,H⟩:=bd_ H
      by_cases c10:t292=true
      ·subst c10
       rw [if_pos rfl] at H
       obtain ⟨t293,LS,H⟩:=bd_ H
       obtain rfl:=Option.some.inj H
       go_enter Tryz.func70,Tryz.ntmps70
       go_wp2_with (first|((with_reducible refine bw (N:=2) rfl ?_);refine bA ?hg (N:=2) ?hd (cs:=#[.int .i64 bu,.bool bX,.slice eK cQ.length eN,.string bL,.string bQ,.bool b9,.slice dA bT.length dw,.slice eO cY.length eP,.int .i64 cg]) (t:=34) ?hr ?_;(case hd=>rfl);(case hg=>rfl);(case hr=>(go_simp;done));intro dO hg BJ bH hb;have cy:=ah.mk (bH);have GN:=ah.mk ((bG:w.heap.size≤dO));have GP:=ah.mk ((bG:w.heap.size≤dO));replace HB:=ah.mk (av aI hb);clear hb bH hg)|((with_reducible refine bw (N:=3) rfl ?_);refine bA ?hg (N:=3) ?hd (cs:=#[.int .i64 jh,.bool jL,.slice pP lW.length pQ,.string jB,.string ji,.bool jk,.slice nv je.length ny,.slice pR mJ.length pS,.int .i64 ke]) (t:=34) ?hr ?_;(case hd=>rfl);(case hg=>rfl);(case hr=>(go_simp;done));intro dP hg ni bH hb;have cH:=ah.mk (bH);have GQ:=ah.mk ((bG:w.heap.size≤dP));have GR:=ah.mk ((bG:w.heap.size≤dP));replace HB:=ah.mk (av aI hb);have kQ:=ah.mk ((yX:dO≠dP));have kR:=ah.mk ((yY:dP≠dO));replace cy:=ah.mk (az za hb);clear hb bH hg;have anP:=kQ.out;have anQ:=kR.out;have JV:ni.cell? ⟨dO,0,none⟩=some (.int .i64 bu):=(af cy.out 0).trans rfl;have JW:ni.cell? ⟨dO,1,none⟩=some (.bool bX):=(af cy.out 1).trans rfl;have Tb:ni.cell? ⟨dO,2,none⟩=some (.slice eK cQ.length eN):=(af cy.out 2).trans rfl;have Tc:ni.cell? ⟨dO,3,none⟩=some (.string bL):=(af cy.out 3).trans rfl;have Td:ni.cell? ⟨dO,4,none⟩=some (.string bQ):=(af cy.out 4).trans rfl;have Te:ni.cell? ⟨dO,5,none⟩=some (.bool b9):=(af cy.out 5).trans rfl;have Tf:ni.cell? ⟨dO,6,none⟩=some (.slice dA bT.length dw):=(af cy.out 6).trans rfl;have Tg:ni.cell? ⟨dO,7,none⟩=some (.slice eO cY.length eP):=(af cy.out 7).trans rfl;have Th:ni.cell? ⟨dO,8,none⟩=some (.int .i64 cg):=(af cy.out 8).trans rfl;have JX:=aa cy.out 0;have JY:=aa cy.out 1;have Ti:=aa cy.out 2;have Tj:=aa cy.out 3;have Tk:=aa cy.out 4;have Tm:=aa cy.out 5;have Tn:=aa cy.out 6;have Tp:=aa cy.out 7;have Tq:=aa cy.out 8;have Ak:ni.cell? ⟨dP,0,none⟩=some (.int .i64 jh):=(af cH.out 0).trans rfl;have Al:ni.cell? ⟨dP,1,none⟩=some (.bool jL):=(af cH.out 1).trans rfl;have Am:ni.cell? ⟨dP,2,none⟩=some (.slice pP lW.length pQ):=(af cH.out 2).trans rfl;have Ao:ni.cell? ⟨dP,3,none⟩=some (.string jB):=(af cH.out 3).trans rfl;have Ap:ni.cell? ⟨dP,4,none⟩=some (.string ji):=(af cH.out 4).trans rfl;have Ee:ni.cell? ⟨dP,5,none⟩=some (.bool jk):=(af cH.out 5).trans rfl;have Jz:ni.cell? ⟨dP,6,none⟩=some (.slice nv je.length ny):=(af cH.out 6).trans rfl;have JA:ni.cell? ⟨dP,7,none⟩=some (.slice pR mJ.length pS):=(af cH.out 7).trans rfl;have JB:ni.cell? ⟨dP,8,none⟩=some (.int .i64 ke):=(af cH.out 8).trans rfl;have Aq:=aa cH.out 0;have Ar:=aa cH.out 1;have Au:=aa cH.out 2;have Aw:=aa cH.out 3;have Ax:=aa cH.out 4;have Ef:=aa cH.out 5;have JC:=aa cH.out 6;have JD:=aa cH.out 7;have JE:=aa cH.out 8)|(go_at_call 114;(with_reducible refine (bP.calls k _ _ cQ _ _ lW true _ ?bk ?bI ?cO ?ey A7.out).mono ?_);(case bk=>repeat (exact (Kd.bU og.out HB.out)));(case bI=>exact om.out);(case cO=>repeat (exact (Kd.bU Tw.out HB.out)));(case ey=>exact Tx.out);rintro e w' ⟨rfl,⟨nd,rfl⟩⟩)|(go_at_call 115;(with_reducible refine (bF.calls k _ _ bT _ _ je true _ ?bk ?bI ?cO ?ey A9.out).mono ?_);(case bk=>repeat (exact (Kd.bU mQ.out eB)));(case bI=>exact nW.out);(case cO=>repeat (exact (Kd.bU X4.out eB)));(case ey=>exact X5.out);rintro e w' ⟨rfl,⟨nd,rfl⟩⟩)|(go_at_call 116;(with_reducible refine (ck.calls k _ _ cY _ _ mJ t293 _ ?bk ?bI ?cO ?ey LS.out).mono ?_);(case bk=>repeat (exact (Kd.bU xp.out eB)));(case bI=>exact xq.out);(case cO=>repeat (exact (Kd.bU ae4.out eB)));(case ey=>exact ae5.out);rintro e w' ⟨rfl,⟨nd,rfl⟩⟩))
       go_ret
       exact ⟨by rfl,eB⟩
      ·replace c10:=Bool.eq_false_iff.mpr c10
       subst c10
       rw [if_neg (show ¬ (false=true) by decide)] at H
       obtain rfl:=Option.some.inj H
       go_enter Tryz.func70,Tryz.ntmps70
       go_wp2_with (first|((with_reducible refine bw (N:=2) rfl ?_);refine bA ?hg (N:=2) ?hd (cs:=#[.int .i64 bu,.bool bX,.slice eK cQ.length eN,.string bL,.string bQ,.bool b9,.slice dA bT.length dw,.slice eO cY.length eP,.int .i64 cg]) (t:=34) ?hr ?_;(case hd=>rfl);(case hg=>rfl);(case hr=>(go_simp;done));intro dO hg ud bH hb;have cy:=ah.mk (bH);have GN:=ah.mk ((bG:w.heap.size≤dO));have GP:=ah.mk ((bG:w.heap.size≤dO));replace HB:=ah.mk (av aI hb);clear hb bH hg)|((with_reducible refine bw (N:=3) rfl ?_);refine bA ?hg (N:=3) ?hd (cs:=#[.int .i64 jh,.bool jL,.slice pP lW.length pQ,.string jB,.string ji,.bool jk,.slice nv je.length ny,.slice pR mJ.length pS,.int .i64 ke]) (t:=34) ?hr ?_;(case hd=>rfl);(case hg=>rfl);(case hr=>(go_simp;done));intro dP hg sK bH hb;have cH:=ah.mk (bH);have GQ:=ah.mk ((bG:w.heap.size≤dP));have GR:=ah.mk ((bG:w.heap.size≤dP));replace HB:=ah.mk (av aI hb);have kQ:=ah.mk ((yX:dO≠dP));have kR:=ah.mk ((yY:dP≠dO));replace cy:=ah.mk (az za hb);clear hb bH hg;have X6:=kQ.out;have X7:=kR.out;have Ae:sK.cell? ⟨dO,0,none⟩=some (.int .i64 bu):=(af cy.out 0).trans rfl;have Af:sK.cell? ⟨dO,1,none⟩=some (.bool bX):=(af cy.out 1).trans rfl;have Ag:sK.cell? ⟨dO,2,none⟩=some (.slice eK cQ.length eN):=(af cy.out 2).trans rfl;have DW:sK.cell? ⟨dO,3,none⟩=some (.string bL):=(af cy.out 3).trans rfl;have DX:sK.cell? ⟨dO,4,none⟩=some (.string bQ):=(af cy.out 4).trans rfl;have DY:sK.cell? ⟨dO,5,none⟩=some (.bool b9):=(af cy.out 5).trans rfl;have Jg:sK.cell? ⟨dO,6,none⟩=some (.slice dA bT.length dw):=(af cy.out 6).trans rfl;have Jh:sK.cell? ⟨dO,7,none⟩=some (.slice eO cY.length eP):=(af cy.out 7).trans rfl;have Ji:sK.cell? ⟨dO,8,none⟩=some (.int .i64 cg):=(af cy.out 8).trans rfl;have Ah:=aa cy.out 0;have Ai:=aa cy.out 1;have Aj:=aa cy.out 2;have DZ:=aa cy.out 3;have D2:=aa cy.out 4;have D3:=aa cy.out 5;have Jj:=aa cy.out 6;have Jk:=aa cy.out 7;have Jl:=aa cy.out 8;have Rl:sK.cell? ⟨dP,0,none⟩=some (.int .i64 jh):=(af cH.out 0).trans rfl;have Rm:sK.cell? ⟨dP,1,none⟩=some (.bool jL):=(af cH.out 1).trans rfl;have aay:sK.cell? ⟨dP,2,none⟩=some (.slice pP lW.length pQ):=(af cH.out 2).trans rfl;have aaz:sK.cell? ⟨dP,3,none⟩=some (.string jB):=(af cH.out 3).trans rfl;have aaA:sK.cell? ⟨dP,4,none⟩=some (.string ji):=(af cH.out 4).trans rfl;have ayU:sK.cell? ⟨dP,5,none⟩=some (.bool jk):=(af cH.out 5).trans rfl;have ayV:sK.cell? ⟨dP,6,none⟩=some (.slice nv je.length ny):=(af cH.out 6).trans rfl;have ayW:sK.cell? ⟨dP,7,none⟩=some (.slice pR mJ.length pS):=(af cH.out 7).trans rfl;have ayX:sK.cell? ⟨dP,8,none⟩=some (.int .i64 ke):=(af cH.out 8).trans rfl;have Rn:=aa cH.out 0;have Ro:=aa cH.out 1;have aaB:=aa cH.out 2;have aaC:=aa cH.out 3;have aaD:=aa cH.out 4;have ayY:=aa cH.out 5;have ayZ:=aa cH.out 6;have ay0:=aa cH.out 7;have ay1:=aa cH.out 8)|(go_at_call 114;(with_reducible refine (bP.calls k _ _ cQ _ _ lW true _ ?bk ?bI ?cO ?ey A7.out).mono ?_);(case bk=>repeat (exact (Kd.bU og.out HB.out)));(case bI=>exact om.out);(case cO=>repeat (exact (Kd.bU Tw.out HB.out)));(case ey=>exact Tx.out);rintro e w' ⟨rfl,⟨nd,rfl⟩⟩)|(go_at_call 115;(with_reducible refine (bF.calls k _ _ bT _ _ je false _ ?bk ?bI ?cO ?ey A9.out).mono ?_);(case bk=>repeat (exact (Kd.bU mQ.out eB)));(case bI=>exact nW.out);(case cO=>repeat (exact (Kd.bU X4.out eB)));(case ey=>exact X5.out);rintro e w' ⟨rfl,⟨nd,rfl⟩⟩))
       go_ret
       exact ⟨by rfl,eB⟩
     ·replace c8:=Bool.eq_false_iff.mpr c8
      subst c8
      rw [if_neg (show ¬ (false=true) by decide)] at H
      obtain rfl:=Option.some.inj H
      go_enter Tryz.func70,Tryz.ntmps70
      go_wp2_with (first|((with_reducible refine bw (N:=2) rfl ?_);refine bA ?hg (N:=2) ?hd (cs:=#[.int .i64 bu,.bool bX,.slice eK cQ.length eN,.string bL,.string bQ,.bool b9,.slice dA bT.length dw,.slice eO cY.length eP,.int .i64 cg]) (t:=34) ?hr ?_;(case hd=>rfl);(case hg=>rfl);(case hr=>(go_simp;done));intro dO hg Y1 bH hb;have cy:=ah.mk (bH);have GN:=ah.mk ((bG:w.heap.size≤dO));have GP:=ah.mk ((bG:w.heap.size≤dO));replace HB:=ah.mk (av aI hb);clear hb bH hg)|((with_reducible refine bw (N:=3) rfl ?_);refine bA ?hg (N:=3) ?hd (cs:=#[.int .i64 jh,.bool jL,.slice pP lW.length pQ,.string jB,.string ji,.bool jk,.slice nv je.length ny,.slice pR mJ.length pS,.int .i64 ke]) (t:=34) ?hr ?_;(case hd=>rfl);(case hg=>rfl);(case hr=>(go_simp;done));intro dP hg sI bH hb;have cH:=ah.mk (bH);have GQ:=ah.mk ((bG:w.heap.size≤dP));have GR:=ah.mk ((bG:w.heap.size≤dP));replace HB:=ah.mk (av aI hb);have kQ:=ah.mk ((yX:dO≠dP));have kR:=ah.mk ((yY:dP≠dO));replace cy:=ah.mk (az za hb);clear hb bH hg;have ajd:=kQ.out;have aje:=kR.out;have D4:sI.cell? ⟨dO,0,none⟩=some (.int .i64 bu):=(af cy.out 0).trans rfl;have D5:sI.cell? ⟨dO,1,none⟩=some (.bool bX):=(af cy.out 1).trans rfl;have D6:sI.cell? ⟨dO,2,none⟩=some (.slice eK cQ.length eN):=(af cy.out 2).trans rfl;have Jm:sI.cell? ⟨dO,3,none⟩=some (.string bL):=(af cy.out 3).trans rfl;have Jn:sI.cell? ⟨dO,4,none⟩=some (.string bQ):=(af cy.out 4).trans rfl;have Qu:sI.cell? ⟨dO,5,none⟩=some (.bool b9):=(af cy.out 5).trans rfl;have Qv:sI.cell? ⟨dO,6,none⟩=some (.slice dA bT.length dw):=(af cy.out 6).trans rfl;have Qw:sI.cell? ⟨dO,7,none⟩=some (.slice eO cY.length eP):=(af cy.out 7).trans rfl;have Qx:sI.cell? ⟨dO,8,none⟩=some (.int .i64 cg):=(af cy.out 8).trans rfl;have D7:=aa cy.out 0;have D8:=aa cy.out 1;have D9:=aa cy.out 2;have Jo:=aa cy.out 3;have Jp:=aa cy.out 4;have Qy:=aa cy.out 5;have Qz:=aa cy.out 6;have QA:=aa cy.out 7;have QB:=aa cy.out 8;have RO:sI.cell? ⟨dP,0,none⟩=some (.int .i64 jh):=(af cH.out 0).trans rfl;have RP:sI.cell? ⟨dP,1,none⟩=some (.bool jL):=(af cH.out 1).trans rfl;have aaP:sI.cell? ⟨dP,2,none⟩=some (.slice pP lW.length pQ):=(af cH.out 2).trans rfl;have aaQ:sI.cell? ⟨dP,3,none⟩=some (.string jB):=(af cH.out 3).trans rfl;have aaR:sI.cell? ⟨dP,4,none⟩=some (.string ji):=(af cH.out 4).trans rfl;have aaS:sI.cell? ⟨dP,5,none⟩=some (.bool jk):=(af cH.out 5).trans rfl;have aaT:sI.cell? ⟨dP,6,none⟩=some (.slice nv je.length ny):=(af cH.out 6).trans rfl;have aaU:sI.cell? ⟨dP,7,none⟩=some (.slice pR mJ.length pS):=(af cH.out 7).trans rfl;have aaV:sI.cell? ⟨dP,8,none⟩=some (.int .i64 ke):=(af cH.out 8).trans rfl;have RQ:=aa cH.out 0;have RR:=aa cH.out 1;have aaW:=aa cH.out 2;have aaX:=aa cH.out 3;have aaY:=aa cH.out 4;have aaZ:=aa cH.out 5;have aa0:=aa cH.out 6;have aa1:=aa cH.out 7;have aa2:=aa cH.out 8)|(go_at_call 114;(with_reducible refine (bP.calls k _ _ cQ _ _ lW false _ ?bk ?bI ?cO ?ey A7.out).mono ?_);(case bk=>repeat (exact (Kd.bU og.out HB.out)));(case bI=>exact om.out);(case cO=>repeat (exact (Kd.bU Tw.out HB.out)));(case ey=>exact Tx.out);rintro e w' ⟨rfl,⟨nd,rfl⟩⟩))
      go_ret
      exact ⟨by rfl,eB⟩
    ·rw [if_neg c6] at H
     have xm:(bL.toList == jB.toList && (bQ.toList == ji.toList && (b9 == jk)))=false:=by simpa using c6
     (try (have UX:decide (bL.toList=jB.toList && (bQ.toList == ji.toList && (b9 == jk)))=false:=by simpa using c6))
     (try (have aDJ:(bL.toList == jB.toList && (bQ.toList == ji.toList && (b9 == jk)))=false:=by simpa using c6))
     (try (have aJ4: ¬ (bL.toList=jB.toList && (bQ.toList == ji.toList && (b9 == jk))):=by simpa using c6))
     clear c6
     obtain rfl:=Option.some.inj H
     go_enter Tryz.func70,Tryz.ntmps70
     go_wp2_with (first|((with_reducible refine bw (N:=2) rfl ?_);refine bA ?hg (N:=2) ?hd (cs:=#[.int .i64 bu,.bool bX,.slice eK cQ.length eN,.string bL,.string bQ,.bool b9,.slice dA bT.length dw,.slice eO cY.length eP,.int .i64 cg]) (t:=34) ?hr ?_;(case hd=>rfl);(case hg=>rfl);(case hr=>(go_simp;done));intro dO hg U3 bH hb;have cy:=ah.mk (bH);have GN:=ah.mk ((bG:w.heap.size≤dO));have GP:=ah.mk ((bG:w.heap.size≤dO));replace HB:=ah.mk (av aI hb);clear hb bH hg)|((with_reducible refine bw (N:=3) rfl ?_);refine bA ?hg (N:=3) ?hd (cs:=#[.int .i64 jh,.bool jL,.slice pP lW.length pQ,.string jB,.string ji,.bool jk,.slice nv je.length ny,.slice pR mJ.length pS,.int .i64 ke]) (t:=34) ?hr ?_;(case hd=>rfl);(case hg=>rfl);(case hr=>(go_simp;done));intro dP hg BK bH hb;have cH:=ah.mk (bH);have GQ:=ah.mk ((bG:w.heap.size≤dP));have GR:=ah.mk ((bG:w.heap.size≤dP));replace HB:=ah.mk (av aI hb);have kQ:=ah.mk ((yX:dO≠dP));have kR:=ah.mk ((yY:dP≠dO));replace cy:=ah.mk (az za hb);clear hb bH hg;have anR:=kQ.out;have anS:=kR.out;have ay2:BK.cell? ⟨dO,0,none⟩=some (.int .i64 bu):=(af cy.out 0).trans rfl;have ay3:BK.cell? ⟨dO,1,none⟩=some (.bool bX):=(af cy.out 1).trans rfl;have ay4:BK.cell? ⟨dO,2,none⟩=some (.slice eK cQ.length eN):=(af cy.out 2).trans rfl;have ay5:BK.cell? ⟨dO,3,none⟩=some (.string bL):=(af cy.out 3).trans rfl;have ay6:BK.cell? ⟨dO,4,none⟩=some (.string bQ):=(af cy.out 4).trans rfl;have ay7:BK.cell? ⟨dO,5,none⟩=some (.bool b9):=(af cy.out 5).trans rfl;have ay8:BK.cell? ⟨dO,6,none⟩=some (.slice dA bT.length dw):=(af cy.out 6).trans rfl;have ay9:BK.cell? ⟨dO,7,none⟩=some (.slice eO cY.length eP):=(af cy.out 7).trans rfl;have aza:BK.cell? ⟨dO,8,none⟩=some (.int .i64 cg):=(af cy.out 8).trans rfl;have azb:=aa cy.out 0;have azc:=aa cy.out 1;have azd:=aa cy.out 2;have aze:=aa cy.out 3;have azf:=aa cy.out 4;have azg:=aa cy.out 5;have azh:=aa cy.out 6;have azi:=aa cy.out 7;have azj:=aa cy.out 8;have QC:BK.cell? ⟨dP,0,none⟩=some (.int .i64 jh):=(af cH.out 0).trans rfl;have QD:BK.cell? ⟨dP,1,none⟩=some (.bool jL):=(af cH.out 1).trans rfl;have QE:BK.cell? ⟨dP,2,none⟩=some (.slice pP lW.length pQ):=(af cH.out 2).trans rfl;have QF:BK.cell? ⟨dP,3,none⟩=some (.string jB):=(af cH.out 3).trans rfl;have QG:BK.cell? ⟨dP,4,none⟩=some (.string ji):=(af cH.out 4).trans rfl;have QH:BK.cell? ⟨dP,5,none⟩=some (.bool jk):=(af cH.out 5).trans rfl;have Zv:BK.cell? ⟨dP,6,none⟩=some (.slice nv je.length ny):=(af cH.out 6).trans rfl;have Zw:BK.cell? ⟨dP,7,none⟩=some (.slice pR mJ.length pS):=(af cH.out 7).trans rfl;have Zx:BK.cell? ⟨dP,8,none⟩=some (.int .i64 ke):=(af cH.out 8).trans rfl;have QI:=aa cH.out 0;have QJ:=aa cH.out 1;have QK:=aa cH.out 2;have QL:=aa cH.out 3;have QM:=aa cH.out 4;have QN:=aa cH.out 5;have Zy:=aa cH.out 6;have Zz:=aa cH.out 7;have ZA:=aa cH.out 8))
     go_ret
     exact ⟨by rfl,aI⟩
   ·rw [if_neg c5] at H
    have qu:(bX == jL)=false:=by simpa using c5
    (try (have N6:decide (bX=jL)=false:=by simpa using c5))
    (try (have aDI:(bX == jL)=false:=by simpa using c5))
    (try (have aJ5: ¬ (bX=jL):=by simpa using c5))
    clear c5
    obtain rfl:=Option.some.inj H
    go_enter Tryz.func70,Tryz.ntmps70
    go_wp2_with (first|((with_reducible refine bw (N:=2) rfl ?_);refine bA ?hg (N:=2) ?hd (cs:=#[.int .i64 bu,.bool bX,.slice eK cQ.length eN,.string bL,.string bQ,.bool b9,.slice dA bT.length dw,.slice eO cY.length eP,.int .i64 cg]) (t:=34) ?hr ?_;(case hd=>rfl);(case hg=>rfl);(case hr=>(go_simp;done));intro dO hg yh bH hb;have cy:=ah.mk (bH);have GN:=ah.mk ((bG:w.heap.size≤dO));have GP:=ah.mk ((bG:w.heap.size≤dO));replace HB:=ah.mk (av aI hb);clear hb bH hg)|((with_reducible refine bw (N:=3) rfl ?_);refine bA ?hg (N:=3) ?hd (cs:=#[.int .i64 jh,.bool jL,.slice pP lW.length pQ,.string jB,.string ji,.bool jk,.slice nv je.length ny,.slice pR mJ.length pS,.int .i64 ke]) (t:=34) ?hr ?_;(case hd=>rfl);(case hg=>rfl);(case hr=>(go_simp;done));intro dP hg LA bH hb;have cH:=ah.mk (bH);have GQ:=ah.mk ((bG:w.heap.size≤dP));have GR:=ah.mk ((bG:w.heap.size≤dP));replace HB:=ah.mk (av aI hb);have kQ:=ah.mk ((yX:dO≠dP));have kR:=ah.mk ((yY:dP≠dO));replace cy:=ah.mk (az za hb);clear hb bH hg;have aGb:=kQ.out;have aGc:=kR.out;have aas:LA.cell? ⟨dO,0,none⟩=some (.int .i64 bu):=(af cy.out 0).trans rfl;have aat:LA.cell? ⟨dO,1,none⟩=some (.bool bX):=(af cy.out 1).trans rfl;have aau:LA.cell? ⟨dO,2,none⟩=some (.slice eK cQ.length eN):=(af cy.out 2).trans rfl;have azk:LA.cell? ⟨dO,3,none⟩=some (.string bL):=(af cy.out 3).trans rfl;have azl:LA.cell? ⟨dO,4,none⟩=some (.string bQ):=(af cy.out 4).trans rfl;have azm:LA.cell? ⟨dO,5,none⟩=some (.bool b9):=(af cy.out 5).trans rfl;have azn:LA.cell? ⟨dO,6,none⟩=some (.slice dA bT.length dw):=(af cy.out 6).trans rfl;have azo:LA.cell? ⟨dO,7,none⟩=some (.slice eO cY.length eP):=(af cy.out 7).trans rfl;have azp:LA.cell? ⟨dO,8,none⟩=some (.int .i64 cg):=(af cy.out 8).trans rfl;have aav:=aa cy.out 0;have aaw:=aa cy.out 1;have aax:=aa cy.out 2;have azq:=aa cy.out 3;have azr:=aa cy.out 4;have azs:=aa cy.out 5;have azt:=aa cy.out 6;have azu:=aa cy.out 7;have azv:=aa cy.out 8;have ZG:LA.cell? ⟨dP,0,none⟩=some (.int .i64 jh):=(af cH.out 0).trans rfl;have ZH:LA.cell? ⟨dP,1,none⟩=some (.bool jL):=(af cH.out 1).trans rfl;have ZI:LA.cell? ⟨dP,2,none⟩=some (.slice pP lW.length pQ):=(af cH.out 2).trans rfl;have ZJ:LA.cell? ⟨dP,3,none⟩=some (.string jB):=(af cH.out 3).trans rfl;have ZK:LA.cell? ⟨dP,4,none⟩=some (.string ji):=(af cH.out 4).trans rfl;have ZL:LA.cell? ⟨dP,5,none⟩=some (.bool jk):=(af cH.out 5).trans rfl;have ZM:LA.cell? ⟨dP,6,none⟩=some (.slice nv je.length ny):=(af cH.out 6).trans rfl;have ZN:LA.cell? ⟨dP,7,none⟩=some (.slice pR mJ.length pS):=(af cH.out 7).trans rfl;have ZO:LA.cell? ⟨dP,8,none⟩=some (.int .i64 ke):=(af cH.out 8).trans rfl;have ZP:=aa cH.out 0;have ZQ:=aa cH.out 1;have ZR:=aa cH.out 2;have ZT:=aa cH.out 3;have ZU:=aa cH.out 4;have ZV:=aa cH.out 5;have ZW:=aa cH.out 6;have ZX:=aa cH.out 7;have ZY:=aa cH.out 8))
    go_ret
    exact ⟨by rfl,aI⟩
  ·rw [if_neg c4] at H
   have ng:=beq_eq_false_iff_ne.mpr c4
   have BC:=bne_iff_ne.mpr c4
   obtain rfl:=Option.some.inj H
   go_enter Tryz.func70,Tryz.ntmps70
   go_wp2_with (first|((with_reducible refine bw (N:=2) rfl ?_);refine bA ?hg (N:=2) ?hd (cs:=#[.int .i64 bu,.bool bX,.slice eK cQ.length eN,.string bL,.string bQ,.bool b9,.slice dA bT.length dw,.slice eO cY.length eP,.int .i64 cg]) (t:=34) ?hr ?_;(case hd=>rfl);(case hg=>rfl);(case hr=>(go_simp;done));intro dO hg w37 bH hb;have cy:=ah.mk (bH);have GN:=ah.mk ((bG:w.heap.size≤dO));have GP:=ah.mk ((bG:w.heap.size≤dO));replace HB:=ah.mk (av aI hb);clear hb bH hg)|((with_reducible refine bw (N:=3) rfl ?_);refine bA ?hg (N:=3) ?hd (cs:=#[.int .i64 jh,.bool jL,.slice pP lW.length pQ,.string jB,.string ji,.bool jk,.slice nv je.length ny,.slice pR mJ.length pS,.int .i64 ke]) (t:=34) ?hr ?_;(case hd=>rfl);(case hg=>rfl);(case hr=>(go_simp;done));intro dP hg uf bH hb;have cH:=ah.mk (bH);have GQ:=ah.mk ((bG:w.heap.size≤dP));have GR:=ah.mk ((bG:w.heap.size≤dP));replace HB:=ah.mk (av aI hb);have kQ:=ah.mk ((yX:dO≠dP));have kR:=ah.mk ((yY:dP≠dO));replace cy:=ah.mk (az za hb);clear hb bH hg;have aGd:=kQ.out;have aGe:=kR.out;have azw:uf.cell? ⟨dO,0,none⟩=some (.int .i64 bu):=(af cy.out 0).trans rfl;have azx:uf.cell? ⟨dO,1,none⟩=some (.bool bX):=(af cy.out 1).trans rfl;have azy:uf.cell? ⟨dO,2,none⟩=some (.slice eK cQ.length eN):=(af cy.out 2).trans rfl;have azz:uf.cell? ⟨dO,3,none⟩=some (.string bL):=(af cy.out 3).trans rfl;have azA:uf.cell? ⟨dO,4,none⟩=some (.string bQ):=(af cy.out 4).trans rfl;have azB:uf.cell? ⟨dO,5,none⟩=some (.bool b9):=(af cy.out 5).trans rfl;have azC:uf.cell? ⟨dO,6,none⟩=some (.slice dA bT.length dw):=(af cy.out 6).trans rfl;have azD:uf.cell? ⟨dO,7,none⟩=some (.slice eO cY.length eP):=(af cy.out 7).trans rfl;have azE:uf.cell? ⟨dO,8,none⟩=some (.int .i64 cg):=(af cy.out 8).trans rfl;have azF:=aa cy.out 0;have azG:=aa cy.out 1;have azH:=aa cy.out 2;have azI:=aa cy.out 3;have azJ:=aa cy.out 4;have azK:=aa cy.out 5;have azL:=aa cy.out 6;have azM:=aa cy.out 7;have azN:=aa cy.out 8;have ac0:uf.cell? ⟨dP,0,none⟩=some (.int .i64 jh):=(af cH.out 0).trans rfl;have ac1:uf.cell? ⟨dP,1,none⟩=some (.bool jL):=(af cH.out 1).trans rfl;have azO:uf.cell? ⟨dP,2,none⟩=some (.slice pP lW.length pQ):=(af cH.out 2).trans rfl;have azP:uf.cell? ⟨dP,3,none⟩=some (.string jB):=(af cH.out 3).trans rfl;have azQ:uf.cell? ⟨dP,4,none⟩=some (.string ji):=(af cH.out 4).trans rfl;have azR:uf.cell? ⟨dP,5,none⟩=some (.bool jk):=(af cH.out 5).trans rfl;have azS:uf.cell? ⟨dP,6,none⟩=some (.slice nv je.length ny):=(af cH.out 6).trans rfl;have azT:uf.cell? ⟨dP,7,none⟩=some (.slice pR mJ.length pS):=(af cH.out 7).trans rfl;have azU:uf.cell? ⟨dP,8,none⟩=some (.int .i64 ke):=(af cH.out 8).trans rfl;have ac2:=aa cH.out 0;have ac3:=aa cH.out 1;have azV:=aa cH.out 2;have azW:=aa cH.out 3;have azX:=aa cH.out 4;have azY:=aa cH.out 5;have azZ:=aa cH.out 6;have az0:=aa cH.out 7;have az1:=aa cH.out 8))
   go_ret
   exact ⟨by rfl,aI⟩
 ·rw [if_neg c3] at H
  have nT:=beq_eq_false_iff_ne.mpr c3
  have tZ:=bne_iff_ne.mpr c3
  obtain rfl:=Option.some.inj H
  go_enter Tryz.func70,Tryz.ntmps70
  go_wp2_with (first|((with_reducible refine bw (N:=2) rfl ?_);refine bA ?hg (N:=2) ?hd (cs:=#[.int .i64 bu,.bool bX,.slice eK cQ.length eN,.string bL,.string bQ,.bool b9,.slice dA bT.length dw,.slice eO cY.length eP,.int .i64 cg]) (t:=34) ?hr ?_;(case hd=>rfl);(case hg=>rfl);(case hr=>(go_simp;done));intro dO hg w42 bH hb;have cy:=ah.mk (bH);have GN:=ah.mk ((bG:w.heap.size≤dO));have GP:=ah.mk ((bG:w.heap.size≤dO));replace HB:=ah.mk (av aI hb);clear hb bH hg)|((with_reducible refine bw (N:=3) rfl ?_);refine bA ?hg (N:=3) ?hd (cs:=#[.int .i64 jh,.bool jL,.slice pP lW.length pQ,.string jB,.string ji,.bool jk,.slice nv je.length ny,.slice pR mJ.length pS,.int .i64 ke]) (t:=34) ?hr ?_;(case hd=>rfl);(case hg=>rfl);(case hr=>(go_simp;done));intro dP hg sQ bH hb;have cH:=ah.mk (bH);have GQ:=ah.mk ((bG:w.heap.size≤dP));have GR:=ah.mk ((bG:w.heap.size≤dP));replace HB:=ah.mk (av aI hb);have kQ:=ah.mk ((yX:dO≠dP));have kR:=ah.mk ((yY:dP≠dO));replace cy:=ah.mk (az za hb);clear hb bH hg;have anT:=kQ.out;have anU:=kR.out;have ac4:sQ.cell? ⟨dO,0,none⟩=some (.int .i64 bu):=(af cy.out 0).trans rfl;have ac5:sQ.cell? ⟨dO,1,none⟩=some (.bool bX):=(af cy.out 1).trans rfl;have ac6:sQ.cell? ⟨dO,2,none⟩=some (.slice eK cQ.length eN):=(af cy.out 2).trans rfl;have ac7:sQ.cell? ⟨dO,3,none⟩=some (.string bL):=(af cy.out 3).trans rfl;have ac8:sQ.cell? ⟨dO,4,none⟩=some (.string bQ):=(af cy.out 4).trans rfl;have ac9:sQ.cell? ⟨dO,5,none⟩=some (.bool b9):=(af cy.out 5).trans rfl;have ada:sQ.cell? ⟨dO,6,none⟩=some (.slice dA bT.length dw):=(af cy.out 6).trans rfl;have adb:sQ.cell? ⟨dO,7,none⟩=some (.slice eO cY.length eP):=(af cy.out 7).trans rfl;have ade:sQ.cell? ⟨dO,8,none⟩=some (.int .i64 cg):=(af cy.out 8).trans rfl;have adf:=aa cy.out 0;have adg:=aa cy.out 1;have adh:=aa cy.out 2;have adi:=aa cy.out 3;have adj:=aa cy.out 4;have adk:=aa cy.out 5;have adl:=aa cy.out 6;have adm:=aa cy.out 7;have adn:=aa cy.out 8;have Sg:sQ.cell? ⟨dP,0,none⟩=some (.int .i64 jh):=(af cH.out 0).trans rfl;have Sh:sQ.cell? ⟨dP,1,none⟩=some (.bool jL):=(af cH.out 1).trans rfl;have Si:sQ.cell? ⟨dP,2,none⟩=some (.slice pP lW.length pQ):=(af cH.out 2).trans rfl;have Sj:sQ.cell? ⟨dP,3,none⟩=some (.string jB):=(af cH.out 3).trans rfl;have Sk:sQ.cell? ⟨dP,4,none⟩=some (.string ji):=(af cH.out 4).trans rfl;have Sl:sQ.cell? ⟨dP,5,none⟩=some (.bool jk):=(af cH.out 5).trans rfl;have Sm:sQ.cell? ⟨dP,6,none⟩=some (.slice nv je.length ny):=(af cH.out 6).trans rfl;have Sn:sQ.cell? ⟨dP,7,none⟩=some (.slice pR mJ.length pS):=(af cH.out 7).trans rfl;have Sq:sQ.cell? ⟨dP,8,none⟩=some (.int .i64 ke):=(af cH.out 8).trans rfl;have Sr:=aa cH.out 0;have Ss:=aa cH.out 1;have Su:=aa cH.out 2;have Sv:=aa cH.out 3;have Sw:=aa cH.out 4;have Sy:=aa cH.out 5;have Sz:=aa cH.out 6;have SA:=aa cH.out 7;have SB:=aa cH.out 8))
  go_ret
  exact ⟨by rfl,aI⟩
def aC.l0:Nat→List (pO)→List (pO)→Int→Int→Option (Bool)
 | 0,_,_,_,_ =>none
 |k + 1,x1,X8,x16,Fm=>if Fm < x16 then (if 0≤Fm then (if Fm < (X8.length:Int) then (if Fm < (x1.length:Int) then ((iJ.f k ((aj X8 Fm).f0) ((aj X8 Fm).f1.f0) ((aj X8 Fm).f1.f1) ((aj X8 Fm).f1.f2.f0) ((aj X8 Fm).f1.f2.f1) ((aj X8 Fm).f1.f2.f2) ((aj X8 Fm).f2) ((aj X8 Fm).f3) ((aj X8 Fm).f4) ((aj x1 Fm).f0) ((aj x1 Fm).f1.f0) ((aj x1 Fm).f1.f1) ((aj x1 Fm).f1.f2.f0) ((aj x1 Fm).f1.f2.f1) ((aj x1 Fm).f1.f2.f2) ((aj x1 Fm).f2) ((aj x1 Fm).f3) ((aj x1 Fm).f4)).bind fun t298=>(if t298=true then (aC.l0 k x1 X8 x16 (wrap64 (Fm + 1))) else (some false))) else (none)) else (none)) else (none)) else (some true)
def aC.f (k:Nat) (l0:List (pO)) (l1:List (pO)):Option (Bool):=if (l0.length:Int)=(l1.length:Int) then (aC.l0 k l1 l0 (l0.length:Int) 0) else (some false)
theorem aC.eY:∀ k,(∀ y0 y1 y2 y3,fP (aC.l0 k y0 y1 y2 y3) (aC.l0 (k + 1) y0 y1 y2 y3))
 | 0=>fun _ _ _ _ r h=>by simp [aC.l0] at h
 |k + 1=>by
  have nY:=aC.eY k
  ·intro y0 y1 y2 y3
   unfold aC.l0
   repeat' (with_reducible first|exact nY _ _ _ _|exact iJ.mono _ _ _ _ _ _ _ _ _ _ _ _ _ _ _ _ _ _ _|exact fP.refl _|refine fP.ite ?_ ?_|refine fP.bind ?_ (fun _ =>?_))
theorem aC.mono:∀ a0 a1 k,fP (aC.f k a0 a1) (aC.f (k + 1) a0 a1):=by
 intro a0 a1 k
 have nY:=aC.eY k
 unfold aC.f
 repeat' (with_reducible first|exact nY _ _ _ _|exact fP.refl _|refine fP.ite ?_ ?_)
theorem aC.calls (k:Nat) (A0:Option Addr) (c0:Nat) (l0:List (pO)) (A1:Option Addr) (c1:Nat) (l1:List (pO)) (r:Bool) (w:World) (nZ:Kd.C Bz w A0 l0.length l0) (hc0:l0.length≤c0) (hr1:Kd.C Bz w A1 l1.length l1) (hc1:l1.length≤c1) (h:aC.f k l0 l1=some r):
 Calls Tryz.prog 69 #[.slice A0 l0.length c0,.slice A1 l1.length c1,.func (.func 70) #[] #[]] w fun e w'=>e= .returned (.bool r)∧Below w.heap.size w w':=by
 have CM:=Tryz.underlying34
 have qN:=ah.mk nZ
 have Eg:=ah.mk hc0
 clear nZ hc0
 have Cy:=ah.mk hr1
 have HC1:=ah.mk hc1
 clear hr1 hc1
 have HB:=ah.mk (Below.refl w.heap.size w)
 have H:(if (l0.length:Int)=(l1.length:Int) then (aC.l0 k l1 l0 (l0.length:Int) 0) else (some false))=some r:=h
 clear h
 by_cases c4:(l0.length:Int)=(l1.length:Int)
 ·rw [if_pos c4] at H
  have ng:=beq_iff_eq.mpr c4
  have BC:=bne_eq_false_iff_eq.mpr c4
  have aDK:(l0.length == l1.length)=true:=by (simp at c4 ⊢;omega)
  clear c4
  have H':=ah.mk H
  clear H
  go_enter Tryz.func69,Tryz.ntmps69
  go_wp2
  go_loopg [17] k (fun kq v17 w'=>∃ (aH:Int),v17= .int .i64 aH∧ah (aC.l0 kq l1 l0 (l0.length:Int) aH=some r)∧ah (kq≤k)∧ah (Below w.heap.size w w'))
  case atStart=>exact ⟨(0),(by rfl),H',⟨Nat.le_refl _⟩,⟨aI⟩⟩
  case round=>
   clear H'
   obtain ⟨aH,rfl,HA,oI,HB⟩:=hrel
   cases gk with
   |zero=>exact absurd HA.out (by simp [aC.l0])
   |succ k1=>
    have H:=HA.out
    clear HA
    simp only [aC.l0] at H
    by_cases c5:aH < (l0.length:Int)
    ·rw [if_pos c5] at H
     have qu:=decide_eq_true c5
     clear c5
     obtain ⟨c6,H⟩:=lg H
     have xm:=decide_eq_true c6
     clear c6
     obtain ⟨c7,H⟩:=lg H
     have E1:=decide_eq_true c7
     clear c7
     obtain ⟨c8,H⟩:=lg H
     have yB:=decide_eq_true c8
     clear c8
     obtain ⟨t298,A9,H⟩:=bd_ H
     by_cases c10:t298=true
     ·subst c10
      rw [if_pos rfl] at H
      have H':=ah.mk H
      clear H
      have OH: 0≤(aH:Int):=of_decide_eq_true cL
      have OI:aH < (l0.length:Int):=of_decide_eq_true cL
      obtain ⟨anV,gp,gu,iD,iE,jc,jd,ahm,vV,vW,vX,vY,vZ,wh,wj,wk,wm,AG,AH,AJ,AK,AL,AQ⟩:=tX qN.out aH OH OI
      cases ahm
      replace vV:=(HB.out.cell (World.block_lt_of_cell? w _ vV)).trans vV
      replace vW:=(HB.out.cell (World.block_lt_of_cell? w _ vW)).trans vW
      replace vX:=(HB.out.cell (World.block_lt_of_cell? w _ vX)).trans vX
      replace vY:=(HB.out.cell (World.block_lt_of_cell? w _ vY)).trans vY
      replace vZ:=(HB.out.cell (World.block_lt_of_cell? w _ vZ)).trans vZ
      replace wh:=(HB.out.cell (World.block_lt_of_cell? w _ wh)).trans wh
      replace wj:=(HB.out.cell (World.block_lt_of_cell? w _ wj)).trans wj
      replace wk:=(HB.out.cell (World.block_lt_of_cell? w _ wk)).trans wk
      replace wm:=(HB.out.cell (World.block_lt_of_cell? w _ wm)).trans wm
      have J0:=ah.mk AH
      have J1:=ah.mk AG
      clear AH AG
      have J2:=ah.mk AK
      have J3:=ah.mk AJ
      clear AK AJ
      have J4:=ah.mk AQ
      have J5:=ah.mk AL
      clear AQ AL
      replace OH:=eq_true OH
      replace OI:=eq_true OI
      go_wp2_with (first|((with_reducible refine bw (N:=8) rfl ?_);refine bA ?hg (N:=8) ?hd (cs:=#[.int .i64 0,.bool false,.slice none 0 0,.string (⟨#[]⟩:ByteArray),.string (⟨#[]⟩:ByteArray),.bool false,.slice none 0 0,.slice none 0 0,.int .i64 0]) (t:=34) ?hr ?_;(case hd=>rfl);(case hg=>rfl);(case hr=>(go_simp;done));intro bK hg yj bH hb;have eF:=ah.mk (bH);have qc:=ah.mk ((bG:w.heap.size≤bK));have Wb:=ah.mk ((bG:w.heap.size≤bK));replace HB:=ah.mk (av aI hb);clear hb bH hg;have ya:yj.cell? ⟨bK,0,none⟩=some (.int .i64 0):=(af eF.out 0).trans rfl;have yc:yj.cell? ⟨bK,1,none⟩=some (.bool false):=(af eF.out 1).trans rfl;have z7:yj.cell? ⟨bK,2,none⟩=some (.slice none 0 0):=(af eF.out 2).trans rfl;have Dl:yj.cell? ⟨bK,3,none⟩=some (.string (⟨#[]⟩:ByteArray)):=(af eF.out 3).trans rfl;have Dm:yj.cell? ⟨bK,4,none⟩=some (.string (⟨#[]⟩:ByteArray)):=(af eF.out 4).trans rfl;have Dn:yj.cell? ⟨bK,5,none⟩=some (.bool false):=(af eF.out 5).trans rfl;have Dp:yj.cell? ⟨bK,6,none⟩=some (.slice none 0 0):=(af eF.out 6).trans rfl;have Dq:yj.cell? ⟨bK,7,none⟩=some (.slice none 0 0):=(af eF.out 7).trans rfl;have Dr:yj.cell? ⟨bK,8,none⟩=some (.int .i64 0):=(af eF.out 8).trans rfl;have yf:=aa eF.out 0;have yg:=aa eF.out 1;have z8:=aa eF.out 2;have Ds:=aa eF.out 3;have Dt:=aa eF.out 4;have Du:=aa eF.out 5;have Dv:=aa eF.out 6;have Dw:=aa eF.out 7;have Dx:=aa eF.out 8;have OJ: 0≤(aH:Int):=of_decide_eq_true cL;have OL:aH < (l1.length:Int):=of_decide_eq_true cL;obtain ⟨qd,uP,uQ,Er,Es,Hj,Hl,ahn,eZ,fA,fB,fC,fD,fE,fF,fG,fH,AR,AU,AV,AX,AY,AZ⟩:=tX Cy.out aH OJ OL;cases ahn;have CQ:qd.block≠bK:=Nat.ne_of_lt (Nat.lt_of_lt_of_le nI qc.out);have CR:qd.block≠bK:=Nat.ne_of_lt (Nat.lt_of_lt_of_le nI qc.out);have CS:qd.block≠bK:=Nat.ne_of_lt (Nat.lt_of_lt_of_le nI qc.out);have CT:qd.block≠bK:=Nat.ne_of_lt (Nat.lt_of_lt_of_le nI qc.out);have CU:qd.block≠bK:=Nat.ne_of_lt (Nat.lt_of_lt_of_le nI qc.out);have CV:qd.block≠bK:=Nat.ne_of_lt (Nat.lt_of_lt_of_le nI qc.out);have CX:qd.block≠bK:=Nat.ne_of_lt (Nat.lt_of_lt_of_le nI qc.out);have CY:qd.block≠bK:=Nat.ne_of_lt (Nat.lt_of_lt_of_le nI qc.out);have CZ:qd.block≠bK:=Nat.ne_of_lt (Nat.lt_of_lt_of_le nI qc.out);replace eZ:=(HB.out.cell (World.block_lt_of_cell? w _ eZ)).trans eZ;replace fA:=(HB.out.cell (World.block_lt_of_cell? w _ fA)).trans fA;replace fB:=(HB.out.cell (World.block_lt_of_cell? w _ fB)).trans fB;replace fC:=(HB.out.cell (World.block_lt_of_cell? w _ fC)).trans fC;replace fD:=(HB.out.cell (World.block_lt_of_cell? w _ fD)).trans fD;replace fE:=(HB.out.cell (World.block_lt_of_cell? w _ fE)).trans fE;replace fF:=(HB.out.cell (World.block_lt_of_cell? w _ fF)).trans fF;replace fG:=(HB.out.cell (World.block_lt_of_cell? w _ fG)).trans fG;replace fH:=(HB.out.cell (World.block_lt_of_cell? w _ fH)).trans fH;have J6:=ah.mk AU;have J7:=ah.mk AR;clear AU AR;have J8:=ah.mk AX;have J9:=ah.mk AV;clear AX AV;have Ka:=ah.mk AZ;have Kb:=ah.mk AY;clear AZ AY;replace eZ:=(cell_far (p:=⟨bK,0,none⟩) nJ (.int .i64 ((aj l0 aH).f0))).trans eZ;replace fA:=(cell_far (p:=⟨bK,0,none⟩) nJ (.int .i64 ((aj l0 aH).f0))).trans fA;replace fB:=(cell_far (p:=⟨bK,0,none⟩) nJ (.int .i64 ((aj l0 aH).f0))).trans fB;replace fC:=(cell_far (p:=⟨bK,0,none⟩) nJ (.int .i64 ((aj l0 aH).f0))).trans fC;replace fD:=(cell_far (p:=⟨bK,0,none⟩) nJ (.int .i64 ((aj l0 aH).f0))).trans fD;replace fE:=(cell_far (p:=⟨bK,0,none⟩) nJ (.int .i64 ((aj l0 aH).f0))).trans fE;replace fF:=(cell_far (p:=⟨bK,0,none⟩) nJ (.int .i64 ((aj l0 aH).f0))).trans fF;replace fG:=(cell_far (p:=⟨bK,0,none⟩) nJ (.int .i64 ((aj l0 aH).f0))).trans fG;replace fH:=(cell_far (p:=⟨bK,0,none⟩) nJ (.int .i64 ((aj l0 aH).f0))).trans fH;replace eZ:=(cell_far (p:=⟨bK,1,none⟩) nK (.bool ((aj l0 aH).f1.f0))).trans eZ;replace fA:=(cell_far (p:=⟨bK,1,none⟩) nK (.bool ((aj l0 aH).f1.f0))).trans fA;replace fB:=(cell_far (p:=⟨bK,1,none⟩) nK (.bool ((aj l0 aH).f1.f0))).trans fB;replace fC:=(cell_far (p:=⟨bK,1,none⟩) nK (.bool ((aj l0 aH).f1.f0))).trans fC;replace fD:=(cell_far (p:=⟨bK,1,none⟩) nK (.bool ((aj l0 aH).f1.f0))).trans fD;replace fE:=(cell_far (p:=⟨bK,1,none⟩) nK (.bool ((aj l0 aH).f1.f0))).trans fE;replace fF:=(cell_far (p:=⟨bK,1,none⟩) nK (.bool ((aj l0 aH).f1.f0))).trans fF;replace fG:=(cell_far (p:=⟨bK,1,none⟩) nK (.bool ((aj l0 aH).f1.f0))).trans fG;replace fH:=(cell_far (p:=⟨bK,1,none⟩) nK (.bool ((aj l0 aH).f1.f0))).trans fH;replace eZ:=(cell_far (p:=⟨bK,2,none⟩) nL (.slice gp ((aj l0 aH).f1.f1).length gu)).trans eZ;replace fA:=(cell_far (p:=⟨bK,2,none⟩) nL (.slice gp ((aj l0 aH).f1.f1).length gu)).trans fA;replace fB:=(cell_far (p:=⟨bK,2,none⟩) nL (.slice gp ((aj l0 aH).f1.f1).length gu)).trans fB;replace fC:=(cell_far (p:=⟨bK,2,none⟩) nL (.slice gp ((aj l0 aH).f1.f1).length gu)).trans fC;replace fD:=(cell_far (p:=⟨bK,2,none⟩) nL (.slice gp ((aj l0 aH).f1.f1).length gu)).trans fD;replace fE:=(cell_far (p:=⟨bK,2,none⟩) nL (.slice gp ((aj l0 aH).f1.f1).length gu)).trans fE;replace fF:=(cell_far (p:=⟨bK,2,none⟩) nL (.slice gp ((aj l0 aH).f1.f1).length gu)).trans fF;replace fG:=(cell_far (p:=⟨bK,2,none⟩) nL (.slice gp ((aj l0 aH).f1.f1).length gu)).trans fG;replace fH:=(cell_far (p:=⟨bK,2,none⟩) nL (.slice gp ((aj l0 aH).f1.f1).length gu)).trans fH;replace eZ:=(cell_far (p:=⟨bK,3,none⟩) nM (.string ((aj l0 aH).f1.f2.f0))).trans eZ;replace fA:=(cell_far (p:=⟨bK,3,none⟩) nM (.string ((aj l0 aH).f1.f2.f0))).trans fA;replace fB:=(cell_far (p:=⟨bK,3,none⟩) nM (.string ((aj l0 aH).f1.f2.f0))).trans fB;replace fC:=(cell_far (p:=⟨bK,3,none⟩) nM (.string ((aj l0 aH).f1.f2.f0))).trans fC;replace fD:=(cell_far (p:=⟨bK,3,none⟩) nM (.string ((aj l0 aH).f1.f2.f0))).trans fD;replace fE:=(cell_far (p:=⟨bK,3,none⟩) nM (.string ((aj l0 aH).f1.f2.f0))).trans fE;replace fF:=(cell_far (p:=⟨bK,3,none⟩) nM (.string ((aj l0 aH).f1.f2.f0))).trans fF;replace fG:=(cell_far (p:=⟨bK,3,none⟩) nM (.string ((aj l0 aH).f1.f2.f0))).trans fG;replace fH:=(cell_far (p:=⟨bK,3,none⟩) nM (.string ((aj l0 aH).f1.f2.f0))).trans fH;replace eZ:=(cell_far (p:=⟨bK,4,none⟩) nN (.string ((aj l0 aH).f1.f2.f1))).trans eZ;replace fA:=(cell_far (p:=⟨bK,4,none⟩) nN (.string ((aj l0 aH).f1.f2.f1))).trans fA;replace fB:=(cell_far (p:=⟨bK,4,none⟩) nN (.string ((aj l0 aH).f1.f2.f1))).trans fB;replace fC:=(cell_far (p:=⟨bK,4,none⟩) nN (.string ((aj l0 aH).f1.f2.f1))).trans fC;replace fD:=(cell_far (p:=⟨bK,4,none⟩) nN (.string ((aj l0 aH).f1.f2.f1))).trans fD;replace fE:=(cell_far (p:=⟨bK,4,none⟩) nN (.string ((aj l0 aH).f1.f2.f1))).trans fE;replace fF:=(cell_far (p:=⟨bK,4,none⟩) nN (.string ((aj l0 aH).f1.f2.f1))).trans fF;replace fG:=(cell_far (p:=⟨bK,4,none⟩) nN (.string ((aj l0 aH).f1.f2.f1))).trans fG;replace fH:=(cell_far (p:=⟨bK,4,none⟩) nN (.string ((aj l0 aH).f1.f2.f1))).trans fH;replace eZ:=(cell_far (p:=⟨bK,5,none⟩) nO (.bool ((aj l0 aH).f1.f2.f2))).trans eZ;replace fA:=(cell_far (p:=⟨bK,5,none⟩) nO (.bool ((aj l0 aH).f1.f2.f2))).trans fA;replace fB:=(cell_far (p:=⟨bK,5,none⟩) nO (.bool ((aj l0 aH).f1.f2.f2))).trans fB;replace fC:=(cell_far (p:=⟨bK,5,none⟩) nO (.bool ((aj l0 aH).f1.f2.f2))).trans fC;replace fD:=(cell_far (p:=⟨bK,5,none⟩) nO (.bool ((aj l0 aH).f1.f2.f2))).trans fD;replace fE:=(cell_far (p:=⟨bK,5,none⟩) nO (.bool ((aj l0 aH).f1.f2.f2))).trans fE;replace fF:=(cell_far (p:=⟨bK,5,none⟩) nO (.bool ((aj l0 aH).f1.f2.f2))).trans fF;replace fG:=(cell_far (p:=⟨bK,5,none⟩) nO (.bool ((aj l0 aH).f1.f2.f2))).trans fG;replace fH:=(cell_far (p:=⟨bK,5,none⟩) nO (.bool ((aj l0 aH).f1.f2.f2))).trans fH;replace eZ:=(cell_far (p:=⟨bK,6,none⟩) nP (.slice iD ((aj l0 aH).f2).length iE)).trans eZ;replace fA:=(cell_far (p:=⟨bK,6,none⟩) nP (.slice iD ((aj l0 aH).f2).length iE)).trans fA;replace fB:=(cell_far (p:=⟨bK,6,none⟩) nP (.slice iD ((aj l0 aH).f2).length iE)).trans fB;replace fC:=(cell_far (p:=⟨bK,6,none⟩) nP (.slice iD ((aj l0 aH).f2).length iE)).trans fC;replace fD:=(cell_far (p:=⟨bK,6,none⟩) nP (.slice iD ((aj l0 aH).f2).length iE)).trans fD;replace fE:=(cell_far (p:=⟨bK,6,none⟩) nP (.slice iD ((aj l0 aH).f2).length iE)).trans fE;replace fF:=(cell_far (p:=⟨bK,6,none⟩) nP (.slice iD ((aj l0 aH).f2).length iE)).trans fF;replace fG:=(cell_far (p:=⟨bK,6,none⟩) nP (.slice iD ((aj l0 aH).f2).length iE)).trans fG;replace fH:=(cell_far (p:=⟨bK,6,none⟩) nP (.slice iD ((aj l0 aH).f2).length iE)).trans fH;replace eZ:=(cell_far (p:=⟨bK,7,none⟩) nQ (.slice jc ((aj l0 aH).f3).length jd)).trans eZ;replace fA:=(cell_far (p:=⟨bK,7,none⟩) nQ (.slice jc ((aj l0 aH).f3).length jd)).trans fA;replace fB:=(cell_far (p:=⟨bK,7,none⟩) nQ (.slice jc ((aj l0 aH).f3).length jd)).trans fB;replace fC:=(cell_far (p:=⟨bK,7,none⟩) nQ (.slice jc ((aj l0 aH).f3).length jd)).trans fC;replace fD:=(cell_far (p:=⟨bK,7,none⟩) nQ (.slice jc ((aj l0 aH).f3).length jd)).trans fD;replace fE:=(cell_far (p:=⟨bK,7,none⟩) nQ (.slice jc ((aj l0 aH).f3).length jd)).trans fE;replace fF:=(cell_far (p:=⟨bK,7,none⟩) nQ (.slice jc ((aj l0 aH).f3).length jd)).trans fF;replace fG:=(cell_far (p:=⟨bK,7,none⟩) nQ (.slice jc ((aj l0 aH).f3).length jd)).trans fG;replace fH:=(cell_far (p:=⟨bK,7,none⟩) nQ (.slice jc ((aj l0 aH).f3).length jd)).trans fH;replace eZ:=(cell_far (p:=⟨bK,8,none⟩) nR (.int .i64 ((aj l0 aH).f4))).trans eZ;replace fA:=(cell_far (p:=⟨bK,8,none⟩) nR (.int .i64 ((aj l0 aH).f4))).trans fA;replace fB:=(cell_far (p:=⟨bK,8,none⟩) nR (.int .i64 ((aj l0 aH).f4))).trans fB;replace fC:=(cell_far (p:=⟨bK,8,none⟩) nR (.int .i64 ((aj l0 aH).f4))).trans fC;replace fD:=(cell_far (p:=⟨bK,8,none⟩) nR (.int .i64 ((aj l0 aH).f4))).trans fD;replace fE:=(cell_far (p:=⟨bK,8,none⟩) nR (.int .i64 ((aj l0 aH).f4))).trans fE;replace fF:=(cell_far (p:=⟨bK,8,none⟩) nR (.int .i64 ((aj l0 aH).f4))).trans fF;replace fG:=(cell_far (p:=⟨bK,8,none⟩) nR (.int .i64 ((aj l0 aH).f4))).trans fG;replace fH:=(cell_far (p:=⟨bK,8,none⟩) nR (.int .i64 ((aj l0 aH).f4))).trans fH;clear CQ;clear CR;clear CS;clear CT;clear CU;clear CV;clear CX;clear CY;clear CZ;replace OJ:=eq_true OJ;replace OL:=eq_true OL)|((with_reducible refine bw (N:=9) rfl ?_);refine bA ?hg (N:=9) ?hd (cs:=#[.int .i64 0,.bool false,.slice none 0 0,.string (⟨#[]⟩:ByteArray),.string (⟨#[]⟩:ByteArray),.bool false,.slice none 0 0,.slice none 0 0,.int .i64 0]) (t:=34) ?hr ?_;(case hd=>rfl);(case hg=>rfl);(case hr=>(go_simp;done));intro lQ hg ni bH hb;have jf:=ah.mk (bH);have anW:=ah.mk ((Hq:w.heap.size≤lQ));have aew:=ah.mk ((Hq:w.heap.size≤lQ));replace HB:=ah.mk (av Wa hb);have lF:=ah.mk ((VY:bK≠lQ));have BN:=ah.mk ((VZ:lQ≠bK));replace eF:=ah.mk (az (g:=bK) (o:= .cells #[.int .i64 ((aj l0 aH).f0),.bool ((aj l0 aH).f1.f0),.slice gp ((aj l0 aH).f1.f1).length gu,.string ((aj l0 aH).f1.f2.f0),.string ((aj l0 aH).f1.f2.f1),.bool ((aj l0 aH).f1.f2.f2),.slice iD ((aj l0 aH).f2).length iE,.slice jc ((aj l0 aH).f3).length jd,.int .i64 ((aj l0 aH).f4)] 34 (0,0)) aev hb);clear hb bH hg;have anP:=BN.out;have anQ:=lF.out;have JV:ni.cell? ⟨lQ,0,none⟩=some (.int .i64 0):=(af jf.out 0).trans rfl;have JW:ni.cell? ⟨lQ,1,none⟩=some (.bool false):=(af jf.out 1).trans rfl;have Tb:ni.cell? ⟨lQ,2,none⟩=some (.slice none 0 0):=(af jf.out 2).trans rfl;have Tc:ni.cell? ⟨lQ,3,none⟩=some (.string (⟨#[]⟩:ByteArray)):=(af jf.out 3).trans rfl;have Td:ni.cell? ⟨lQ,4,none⟩=some (.string (⟨#[]⟩:ByteArray)):=(af jf.out 4).trans rfl;have Te:ni.cell? ⟨lQ,5,none⟩=some (.bool false):=(af jf.out 5).trans rfl;have Tf:ni.cell? ⟨lQ,6,none⟩=some (.slice none 0 0):=(af jf.out 6).trans rfl;have Tg:ni.cell? ⟨lQ,7,none⟩=some (.slice none 0 0):=(af jf.out 7).trans rfl;have Th:ni.cell? ⟨lQ,8,none⟩=some (.int .i64 0):=(af jf.out 8).trans rfl;have JX:=aa jf.out 0;have JY:=aa jf.out 1;have Ti:=aa jf.out 2;have Tj:=aa jf.out 3;have Tk:=aa jf.out 4;have Tm:=aa jf.out 5;have Tn:=aa jf.out 6;have Tp:=aa jf.out 7;have Tq:=aa jf.out 8;have Ak:ni.cell? ⟨bK,0,none⟩=some (.int .i64 ((aj l0 aH).f0)):=(af eF.out 0).trans rfl;have Al:ni.cell? ⟨bK,1,none⟩=some (.bool ((aj l0 aH).f1.f0)):=(af eF.out 1).trans rfl;have Am:ni.cell? ⟨bK,2,none⟩=some (.slice gp ((aj l0 aH).f1.f1).length gu):=(af eF.out 2).trans rfl;have Ao:ni.cell? ⟨bK,3,none⟩=some (.string ((aj l0 aH).f1.f2.f0)):=(af eF.out 3).trans rfl;have Ap:ni.cell? ⟨bK,4,none⟩=some (.string ((aj l0 aH).f1.f2.f1)):=(af eF.out 4).trans rfl;have Ee:ni.cell? ⟨bK,5,none⟩=some (.bool ((aj l0 aH).f1.f2.f2)):=(af eF.out 5).trans rfl;have Jz:ni.cell? ⟨bK,6,none⟩=some (.slice iD ((aj l0 aH).f2).length iE):=(af eF.out 6).trans rfl;have JA:ni.cell? ⟨bK,7,none⟩=some (.slice jc ((aj l0 aH).f3).length jd):=(af eF.out 7).trans rfl;have JB:ni.cell? ⟨bK,8,none⟩=some (.int .i64 ((aj l0 aH).f4)):=(af eF.out 8).trans rfl;have Aq:=aa eF.out 0;have Ar:=aa eF.out 1;have Au:=aa eF.out 2;have Aw:=aa eF.out 3;have Ax:=aa eF.out 4;have Ef:=aa eF.out 5;have JC:=aa eF.out 6;have JD:=aa eF.out 7;have JE:=aa eF.out 8)|(go_at_call 70;(with_reducible refine (iJ.calls k1 ((aj l0 aH).f0) ((aj l0 aH).f1.f0) _ _ ((aj l0 aH).f1.f1) ((aj l0 aH).f1.f2.f0) ((aj l0 aH).f1.f2.f1) ((aj l0 aH).f1.f2.f2) _ _ ((aj l0 aH).f2) _ _ ((aj l0 aH).f3) ((aj l0 aH).f4) ((aj l1 aH).f0) ((aj l1 aH).f1.f0) _ _ ((aj l1 aH).f1.f1) ((aj l1 aH).f1.f2.f0) ((aj l1 aH).f1.f2.f1) ((aj l1 aH).f1.f2.f2) _ _ ((aj l1 aH).f2) _ _ ((aj l1 aH).f3) ((aj l1 aH).f4) true _ ?bk ?bI ?cO ?ey ?gz ?gA ?ko ?nA ?nB ?OM ?OO ?OP A9.out).mono ?_);(case bk=>exact Kd.bU J0.out pW);(case bI=>exact J1.out);(case cO=>exact Kd.bU J2.out pW);(case ey=>exact J3.out);(case gz=>exact Kd.bU J4.out pW);(case gA=>exact J5.out);(case ko=>exact Kd.bU J6.out pW);(case nA=>exact J7.out);(case nB=>exact Kd.bU J8.out pW);(case OM=>exact J9.out);(case OO=>exact Kd.bU Ka.out pW);(case OP=>exact Kb.out);rintro e ud ⟨rfl,hb⟩;replace eF:=ah.mk (az (g:=bK) (o:= .cells #[.int .i64 ((aj l0 aH).f0),.bool ((aj l0 aH).f1.f0),.slice gp ((aj l0 aH).f1.f1).length gu,.string ((aj l0 aH).f1.f2.f0),.string ((aj l0 aH).f1.f2.f1),.bool ((aj l0 aH).f1.f2.f2),.slice iD ((aj l0 aH).f2).length iE,.slice jc ((aj l0 aH).f3).length jd,.int .i64 ((aj l0 aH).f4)] 34 (0,0)) Wd hb);replace jf:=ah.mk (az (g:=lQ) (o:= .cells #[.int .i64 ((aj l1 aH).f0),.bool ((aj l1 aH).f1.f0),.slice uP ((aj l1 aH).f1.f1).length uQ,.string ((aj l1 aH).f1.f2.f0),.string ((aj l1 aH).f1.f2.f1),.bool ((aj l1 aH).f1.f2.f2),.slice Er ((aj l1 aH).f2).length Es,.slice Hj ((aj l1 aH).f3).length Hl,.int .i64 ((aj l1 aH).f4)] 34 (0,0)) V3 hb);replace HB:=ah.mk (av pW hb);(try clear hb)))
      go_roundg k1
      case measure=>have:=oI.out;omega
      case rel=>exact ⟨(wrap64 (aH + 1)),(by rfl),H',⟨lS⟩,⟨aI⟩⟩
     ·replace c10:=Bool.eq_false_iff.mpr c10
      subst c10
      rw [if_neg (show ¬ (false=true) by decide)] at H
      obtain rfl:=Option.some.inj H
      have OH: 0≤(aH:Int):=of_decide_eq_true cL
      have OI:aH < (l0.length:Int):=of_decide_eq_true cL
      obtain ⟨anV,gp,gu,iD,iE,jc,jd,ahm,vV,vW,vX,vY,vZ,wh,wj,wk,wm,AG,AH,AJ,AK,AL,AQ⟩:=tX qN.out aH OH OI
      cases ahm
      replace vV:=(HB.out.cell (World.block_lt_of_cell? w _ vV)).trans vV
      replace vW:=(HB.out.cell (World.block_lt_of_cell? w _ vW)).trans vW
      replace vX:=(HB.out.cell (World.block_lt_of_cell? w _ vX)).trans vX
      replace vY:=(HB.out.cell (World.block_lt_of_cell? w _ vY)).trans vY
      replace vZ:=(HB.out.cell (World.block_lt_of_cell? w _ vZ)).trans vZ
      replace wh:=(HB.out.cell (World.block_lt_of_cell? w _ wh)).trans wh
      replace wj:=(HB.out.cell (World.block_lt_of_cell? w _ wj)).trans wj
      replace wk:=(HB.out.cell (World.block_lt_of_cell? w _ wk)).trans wk
      replace wm:=(HB.out.cell (World.block_lt_of_cell? w _ wm)).trans wm
      have J0:=ah.mk AH
      have J1:=ah.mk AG
      clear AH AG
      have J2:=ah.mk AK
      have J3:=ah.mk AJ
      clear AK AJ
      have J4:=ah.mk AQ
      have J5:=ah.mk AL
      clear AQ AL
      replace OH:=eq_true OH
      replace OI:=eq_true OI
      go_wp2_with (first|((with_reducible refine bw (N:=8) rfl ?_);refine bA ?hg (N:=8) ?hd (cs:=#[.int .i64 0,.bool false,.slice none 0 0,.string (⟨#[]⟩:ByteArray),.string (⟨#[]⟩:ByteArray),.bool false,.slice none 0 0,.slice none 0 0,.int .i64 0]) (t:=34) ?hr ?_;(case hd=>rfl);(case hg=>rfl);(case hr=>(go_simp;done));intro bK hg sK bH hb;have eF:=ah.mk (bH);have qc:=ah.mk ((bG:w.heap.size≤bK));have Wb:=ah.mk ((bG:w.heap.size≤bK));replace HB:=ah.mk (av aI hb);clear hb bH hg;have IY:sK.cell? ⟨bK,0,none⟩=some (.int .i64 0):=(af eF.out 0).trans rfl;have IZ:sK.cell? ⟨bK,1,none⟩=some (.bool false):=(af eF.out 1).trans rfl;have I0:sK.cell? ⟨bK,2,none⟩=some (.slice none 0 0):=(af eF.out 2).trans rfl;have I1:sK.cell? ⟨bK,3,none⟩=some (.string (⟨#[]⟩:ByteArray)):=(af eF.out 3).trans rfl;have I2:sK.cell? ⟨bK,4,none⟩=some (.string (⟨#[]⟩:ByteArray)):=(af eF.out 4).trans rfl;have I3:sK.cell? ⟨bK,5,none⟩=some (.bool false):=(af eF.out 5).trans rfl;have I4:sK.cell? ⟨bK,6,none⟩=some (.slice none 0 0):=(af eF.out 6).trans rfl;have I5:sK.cell? ⟨bK,7,none⟩=some (.slice none 0 0):=(af eF.out 7).trans rfl;have I6:sK.cell? ⟨bK,8,none⟩=some (.int .i64 0):=(af eF.out 8).trans rfl;have I7:=aa eF.out 0;have I8:=aa eF.out 1;have I9:=aa eF.out 2;have Ja:=aa eF.out 3;have Jb:=aa eF.out 4;have Jc:=aa eF.out 5;have Jd:=aa eF.out 6;have Je:=aa eF.out 7;have Jf:=aa eF.out 8;have OJ: 0≤(aH:Int):=of_decide_eq_true cL;have OL:aH < (l1.length:Int):=of_decide_eq_true cL;obtain ⟨qd,uP,uQ,Er,Es,Hj,Hl,ahn,eZ,fA,fB,fC,fD,fE,fF,fG,fH,AR,AU,AV,AX,AY,AZ⟩:=tX Cy.out aH OJ OL;cases ahn;have CQ:qd.block≠bK:=Nat.ne_of_lt (Nat.lt_of_lt_of_le nI qc.out);have CR:qd.block≠bK:=Nat.ne_of_lt (Nat.lt_of_lt_of_le nI qc.out);have CS:qd.block≠bK:=Nat.ne_of_lt (Nat.lt_of_lt_of_le nI qc.out);have CT:qd.block≠bK:=Nat.ne_of_lt (Nat.lt_of_lt_of_le nI qc.out);have CU:qd.block≠bK:=Nat.ne_of_lt (Nat.lt_of_lt_of_le nI qc.out);have CV:qd.block≠bK:=Nat.ne_of_lt (Nat.lt_of_lt_of_le nI qc.out);have CX:qd.block≠bK:=Nat.ne_of_lt (Nat.lt_of_lt_of_le nI qc.out);have CY:qd.block≠bK:=Nat.ne_of_lt (Nat.lt_of_lt_of_le nI qc.out);have CZ:qd.block≠bK:=Nat.ne_of_lt (Nat.lt_of_lt_of_le nI qc.out);replace eZ:=(HB.out.cell (World.block_lt_of_cell? w _ eZ)).trans eZ;replace fA:=(HB.out.cell (World.block_lt_of_cell? w _ fA)).trans fA;replace fB:=(HB.out.cell (World.block_lt_of_cell? w _ fB)).trans fB;replace fC:=(HB.out.cell (World.block_lt_of_cell? w _ fC)).trans fC;replace fD:=(HB.out.cell (World.block_lt_of_cell? w _ fD)).trans fD;replace fE:=(HB.out.cell (World.block_lt_of_cell? w _ fE)).trans fE;replace fF:=(HB.out.cell (World.block_lt_of_cell? w _ fF)).trans fF;replace fG:=(HB.out.cell (World.block_lt_of_cell? w _ fG)).trans fG;replace fH:=(HB.out.cell (World.block_lt_of_cell? w _ fH)).trans fH;have J6:=ah.mk AU;have J7:=ah.mk AR;clear AU AR;have J8:=ah.mk AX;have J9:=ah.mk AV;clear AX AV;have Ka:=ah.mk AZ;have Kb:=ah.mk AY;clear AZ AY;replace eZ:=(cell_far (p:=⟨bK,0,none⟩) nJ (.int .i64 ((aj l0 aH).f0))).trans eZ;replace fA:=(cell_far (p:=⟨bK,0,none⟩) nJ (.int .i64 ((aj l0 aH).f0))).trans fA;replace fB:=(cell_far (p:=⟨bK,0,none⟩) nJ (.int .i64 ((aj l0 aH).f0))).trans fB;replace fC:=(cell_far (p:=⟨bK,0,none⟩) nJ (.int .i64 ((aj l0 aH).f0))).trans fC;replace fD:=(cell_far (p:=⟨bK,0,none⟩) nJ (.int .i64 ((aj l0 aH).f0))).trans fD;replace fE:=(cell_far (p:=⟨bK,0,none⟩) nJ (.int .i64 ((aj l0 aH).f0))).trans fE;replace fF:=(cell_far (p:=⟨bK,0,none⟩) nJ (.int .i64 ((aj l0 aH).f0))).trans fF;replace fG:=(cell_far (p:=⟨bK,0,none⟩) nJ (.int .i64 ((aj l0 aH).f0))).trans fG;replace fH:=(cell_far (p:=⟨bK,0,none⟩) nJ (.int .i64 ((aj l0 aH).f0))).trans fH;replace eZ:=(cell_far (p:=⟨bK,1,none⟩) nK (.bool ((aj l0 aH).f1.f0))).trans eZ;replace fA:=(cell_far (p:=⟨bK,1,none⟩) nK (.bool ((aj l0 aH).f1.f0))).trans fA;replace fB:=(cell_far (p:=⟨bK,1,none⟩) nK (.bool ((aj l0 aH).f1.f0))).trans fB;replace fC:=(cell_far (p:=⟨bK,1,none⟩) nK (.bool ((aj l0 aH).f1.f0))).trans fC;replace fD:=(cell_far (p:=⟨bK,1,none⟩) nK (.bool ((aj l0 aH).f1.f0))).trans fD;replace fE:=(cell_far (p:=⟨bK,1,none⟩) nK (.bool ((aj l0 aH).f1.f0))).trans fE;replace fF:=(cell_far (p:=⟨bK,1,none⟩) nK (.bool ((aj l0 aH).f1.f0))).trans fF;replace fG:=(cell_far (p:=⟨bK,1,none⟩) nK (.bool ((aj l0 aH).f1.f0))).trans fG;replace fH:=(cell_far (p:=⟨bK,1,none⟩) nK (.bool ((aj l0 aH).f1.f0))).trans fH;replace eZ:=(cell_far (p:=⟨bK,2,none⟩) nL (.slice gp ((aj l0 aH).f1.f1).length gu)).trans eZ;replace fA:=(cell_far (p:=⟨bK,2,none⟩) nL (.slice gp ((aj l0 aH).f1.f1).length gu)).trans fA;replace fB:=(cell_far (p:=⟨bK,2,none⟩) nL (.slice gp ((aj l0 aH).f1.f1).length gu)).trans fB;replace fC:=(cell_far (p:=⟨bK,2,none⟩) nL (.slice gp ((aj l0 aH).f1.f1).length gu)).trans fC;replace fD:=(cell_far (p:=⟨bK,2,none⟩) nL (.slice gp ((aj l0 aH).f1.f1).length gu)).trans fD;replace fE:=(cell_far (p:=⟨bK,2,none⟩) nL (.slice gp ((aj l0 aH).f1.f1).length gu)).trans fE;replace fF:=(cell_far (p:=⟨bK,2,none⟩) nL (.slice gp ((aj l0 aH).f1.f1).length gu)).trans fF;replace fG:=(cell_far (p:=⟨bK,2,none⟩) nL (.slice gp ((aj l0 aH).f1.f1).length gu)).trans fG;replace fH:=(cell_far (p:=⟨bK,2,none⟩) nL (.slice gp ((aj l0 aH).f1.f1).length gu)).trans fH;replace eZ:=(cell_far (p:=⟨bK,3,none⟩) nM (.string ((aj l0 aH).f1.f2.f0))).trans eZ;replace fA:=(cell_far (p:=⟨bK,3,none⟩) nM (.string ((aj l0 aH).f1.f2.f0))).trans fA;replace fB:=(cell_far (p:=⟨bK,3,none⟩) nM (.string ((aj l0 aH).f1.f2.f0))).trans fB;replace fC:=(cell_far (p:=⟨bK,3,none⟩) nM (.string ((aj l0 aH).f1.f2.f0))).trans fC;replace fD:=(cell_far (p:=⟨bK,3,none⟩) nM (.string ((aj l0 aH).f1.f2.f0))).trans fD;replace fE:=(cell_far (p:=⟨bK,3,none⟩) nM (.string ((aj l0 aH).f1.f2.f0))).trans fE;replace fF:=(cell_far (p:=⟨bK,3,none⟩) nM (.string ((aj l0 aH).f1.f2.f0))).trans fF;replace fG:=(cell_far (p:=⟨bK,3,none⟩) nM (.string ((aj l0 aH).f1.f2.f0))).trans fG;replace fH:=(cell_far (p:=⟨bK,3,none⟩) nM (.string ((aj l0 aH).f1.f2.f0))).trans fH;replace eZ:=(cell_far (p:=⟨bK,4,none⟩) nN (.string ((aj l0 aH).f1.f2.f1))).trans eZ;replace fA:=(cell_far (p:=⟨bK,4,none⟩) nN (.string ((aj l0 aH).f1.f2.f1))).trans fA;replace fB:=(cell_far (p:=⟨bK,4,none⟩) nN (.string ((aj l0 aH).f1.f2.f1))).trans fB;replace fC:=(cell_far (p:=⟨bK,4,none⟩) nN (.string ((aj l0 aH).f1.f2.f1))).trans fC;replace fD:=(cell_far (p:=⟨bK,4,none⟩) nN (.string ((aj l0 aH).f1.f2.f1))).trans fD;replace fE:=(cell_far (p:=⟨bK,4,none⟩) nN (.string ((aj l0 aH).f1.f2.f1))).trans fE;replace fF:=(cell_far (p:=⟨bK,4,none⟩) nN (.string ((aj l0 aH).f1.f2.f1))).trans fF;replace fG:=(cell_far (p:=⟨bK,4,none⟩) nN (.string ((aj l0 aH).f1.f2.f1))).trans fG;replace fH:=(cell_far (p:=⟨bK,4,none⟩) nN (.string ((aj l0 aH).f1.f2.f1))).trans fH;replace eZ:=(cell_far (p:=⟨bK,5,none⟩) nO (.bool ((aj l0 aH).f1.f2.f2))).trans eZ;replace fA:=(cell_far (p:=⟨bK,5,none⟩) nO (.bool ((aj l0 aH).f1.f2.f2))).trans fA;replace fB:=(cell_far (p:=⟨bK,5,none⟩) nO (.bool ((aj l0 aH).f1.f2.f2))).trans fB;replace fC:=(cell_far (p:=⟨bK,5,none⟩) nO (.bool ((aj l0 aH).f1.f2.f2))).trans fC;replace fD:=(cell_far (p:=⟨bK,5,none⟩) nO (.bool ((aj l0 aH).f1.f2.f2))).trans fD;replace fE:=(cell_far (p:=⟨bK,5,none⟩) nO (.bool ((aj l0 aH).f1.f2.f2))).trans fE;replace fF:=(cell_far (p:=⟨bK,5,none⟩) nO (.bool ((aj l0 aH).f1.f2.f2))).trans fF;replace fG:=(cell_far (p:=⟨bK,5,none⟩) nO (.bool ((aj l0 aH).f1.f2.f2))).trans fG;replace fH:=(cell_far (p:=⟨bK,5,none⟩) nO (.bool ((aj l0 aH).f1.f2.f2))).trans fH;replace eZ:=(cell_far (p:=⟨bK,6,none⟩) nP (.slice iD ((aj l0 aH).f2).length iE)).trans eZ;replace fA:=(cell_far (p:=⟨bK,6,none⟩) nP (.slice iD ((aj l0 aH).f2).length iE)).trans fA;replace fB:=(cell_far (p:=⟨bK,6,none⟩) nP (.slice iD ((aj l0 aH).f2).length iE)).trans fB;replace fC:=(cell_far (p:=⟨bK,6,none⟩) nP (.slice iD ((aj l0 aH).f2).length iE)).trans fC;replace fD:=(cell_far (p:=⟨bK,6,none⟩) nP (.slice iD ((aj l0 aH).f2).length iE)).trans fD;replace fE:=(cell_far (p:=⟨bK,6,none⟩) nP (.slice iD ((aj l0 aH).f2).length iE)).trans fE;replace fF:=(cell_far (p:=⟨bK,6,none⟩) nP (.slice iD ((aj l0 aH).f2).length iE)).trans fF;replace fG:=(cell_far (p:=⟨bK,6,none⟩) nP (.slice iD ((aj l0 aH).f2).length iE)).trans fG;replace fH:=(cell_far (p:=⟨bK,6,none⟩) nP (.slice iD ((aj l0 aH).f2).length iE)).trans fH;replace eZ:=(cell_far (p:=⟨bK,7,none⟩) nQ (.slice jc ((aj l0 aH).f3).length jd)).trans eZ;replace fA:=(cell_far (p:=⟨bK,7,none⟩) nQ (.slice jc ((aj l0 aH).f3).length jd)).trans fA;replace fB:=(cell_far (p:=⟨bK,7,none⟩) nQ (.slice jc ((aj l0 aH).f3).length jd)).trans fB;replace fC:=(cell_far (p:=⟨bK,7,none⟩) nQ (.slice jc ((aj l0 aH).f3).length jd)).trans fC;replace fD:=(cell_far (p:=⟨bK,7,none⟩) nQ (.slice jc ((aj l0 aH).f3).length jd)).trans fD;replace fE:=(cell_far (p:=⟨bK,7,none⟩) nQ (.slice jc ((aj l0 aH).f3).length jd)).trans fE;replace fF:=(cell_far (p:=⟨bK,7,none⟩) nQ (.slice jc ((aj l0 aH).f3).length jd)).trans fF;replace fG:=(cell_far (p:=⟨bK,7,none⟩) nQ (.slice jc ((aj l0 aH).f3).length jd)).trans fG;replace fH:=(cell_far (p:=⟨bK,7,none⟩) nQ (.slice jc ((aj l0 aH).f3).length jd)).trans fH;replace eZ:=(cell_far (p:=⟨bK,8,none⟩) nR (.int .i64 ((aj l0 aH).f4))).trans eZ;replace fA:=(cell_far (p:=⟨bK,8,none⟩) nR (.int .i64 ((aj l0 aH).f4))).trans fA;replace fB:=(cell_far (p:=⟨bK,8,none⟩) nR (.int .i64 ((aj l0 aH).f4))).trans fB;replace fC:=(cell_far (p:=⟨bK,8,none⟩) nR (.int .i64 ((aj l0 aH).f4))).trans fC;replace fD:=(cell_far (p:=⟨bK,8,none⟩) nR (.int .i64 ((aj l0 aH).f4))).trans fD;replace fE:=(cell_far (p:=⟨bK,8,none⟩) nR (.int .i64 ((aj l0 aH).f4))).trans fE;replace fF:=(cell_far (p:=⟨bK,8,none⟩) nR (.int .i64 ((aj l0 aH).f4))).trans fF;replace fG:=(cell_far (p:=⟨bK,8,none⟩) nR (.int .i64 ((aj l0 aH).f4))).trans fG;replace fH:=(cell_far (p:=⟨bK,8,none⟩) nR (.int .i64 ((aj l0 aH).f4))).trans fH;clear CQ;clear CR;clear CS;clear CT;clear CU;clear CV;clear CX;clear CY;clear CZ;replace OJ:=eq_true OJ;replace OL:=eq_true OL)|((with_reducible refine bw (N:=9) rfl ?_);refine bA ?hg (N:=9) ?hd (cs:=#[.int .i64 0,.bool false,.slice none 0 0,.string (⟨#[]⟩:ByteArray),.string (⟨#[]⟩:ByteArray),.bool false,.slice none 0 0,.slice none 0 0,.int .i64 0]) (t:=34) ?hr ?_;(case hd=>rfl);(case hg=>rfl);(case hr=>(go_simp;done));intro lQ hg CN bH hb;have jf:=ah.mk (bH);have anW:=ah.mk ((Hq:w.heap.size≤lQ));have aew:=ah.mk ((Hq:w.heap.size≤lQ));replace HB:=ah.mk (av Wa hb);have lF:=ah.mk ((VY:bK≠lQ));have BN:=ah.mk ((VZ:lQ≠bK));replace eF:=ah.mk (az (g:=bK) (o:= .cells #[.int .i64 ((aj l0 aH).f0),.bool ((aj l0 aH).f1.f0),.slice gp ((aj l0 aH).f1.f1).length gu,.string ((aj l0 aH).f1.f2.f0),.string ((aj l0 aH).f1.f2.f1),.bool ((aj l0 aH).f1.f2.f2),.slice iD ((aj l0 aH).f2).length iE,.slice jc ((aj l0 aH).f3).length jd,.int .i64 ((aj l0 aH).f4)] 34 (0,0)) aev hb);clear hb bH hg;have anX:=BN.out;have anY:=lF.out;have Rs:CN.cell? ⟨lQ,0,none⟩=some (.int .i64 0):=(af jf.out 0).trans rfl;have Rt:CN.cell? ⟨lQ,1,none⟩=some (.bool false):=(af jf.out 1).trans rfl;have Ru:CN.cell? ⟨lQ,2,none⟩=some (.slice none 0 0):=(af jf.out 2).trans rfl;have Rv:CN.cell? ⟨lQ,3,none⟩=some (.string (⟨#[]⟩:ByteArray)):=(af jf.out 3).trans rfl;have Rw:CN.cell? ⟨lQ,4,none⟩=some (.string (⟨#[]⟩:ByteArray)):=(af jf.out 4).trans rfl;have Rx:CN.cell? ⟨lQ,5,none⟩=some (.bool false):=(af jf.out 5).trans rfl;have Ry:CN.cell? ⟨lQ,6,none⟩=some (.slice none 0 0):=(af jf.out 6).trans rfl;have Rz:CN.cell? ⟨lQ,7,none⟩=some (.slice none 0 0):=(af jf.out 7).trans rfl;have RA:CN.cell? ⟨lQ,8,none⟩=some (.int .i64 0):=(af jf.out 8).trans rfl;have RB:=aa jf.out 0;have RF:=aa jf.out 1;have RG:=aa jf.out 2;have RH:=aa jf.out 3;have RI:=aa jf.out 4;have RJ:=aa jf.out 5;have RL:=aa jf.out 6;have RM:=aa jf.out 7;have RN:=aa jf.out 8;have aaE:CN.cell? ⟨bK,0,none⟩=some (.int .i64 ((aj l0 aH).f0)):=(af eF.out 0).trans rfl;have aaF:CN.cell? ⟨bK,1,none⟩=some (.bool ((aj l0 aH).f1.f0)):=(af eF.out 1).trans rfl;have aaG:CN.cell? ⟨bK,2,none⟩=some (.slice gp ((aj l0 aH).f1.f1).length gu):=(af eF.out 2).trans rfl;have aaH:CN.cell? ⟨bK,3,none⟩=some (.string ((aj l0 aH).f1.f2.f0)):=(af eF.out 3).trans rfl;have aaI:CN.cell? ⟨bK,4,none⟩=some (.string ((aj l0 aH).f1.f2.f1)):=(af eF.out 4).trans rfl;have az2:CN.cell? ⟨bK,5,none⟩=some (.bool ((aj l0 aH).f1.f2.f2)):=(af eF.out 5).trans rfl;have az3:CN.cell? ⟨bK,6,none⟩=some (.slice iD ((aj l0 aH).f2).length iE):=(af eF.out 6).trans rfl;have az4:CN.cell? ⟨bK,7,none⟩=some (.slice jc ((aj l0 aH).f3).length jd):=(af eF.out 7).trans rfl;have az5:CN.cell? ⟨bK,8,none⟩=some (.int .i64 ((aj l0 aH).f4)):=(af eF.out 8).trans rfl;have aaJ:=aa eF.out 0;have aaK:=aa eF.out 1;have aaL:=aa eF.out 2;have aaM:=aa eF.out 3;have aaN:=aa eF.out 4;have az6:=aa eF.out 5;have az7:=aa eF.out 6;have az8:=aa eF.out 7;have az9:=aa eF.out 8)|(go_at_call 70;(with_reducible refine (iJ.calls k1 ((aj l0 aH).f0) ((aj l0 aH).f1.f0) _ _ ((aj l0 aH).f1.f1) ((aj l0 aH).f1.f2.f0) ((aj l0 aH).f1.f2.f1) ((aj l0 aH).f1.f2.f2) _ _ ((aj l0 aH).f2) _ _ ((aj l0 aH).f3) ((aj l0 aH).f4) ((aj l1 aH).f0) ((aj l1 aH).f1.f0) _ _ ((aj l1 aH).f1.f1) ((aj l1 aH).f1.f2.f0) ((aj l1 aH).f1.f2.f1) ((aj l1 aH).f1.f2.f2) _ _ ((aj l1 aH).f2) _ _ ((aj l1 aH).f3) ((aj l1 aH).f4) false _ ?bk ?bI ?cO ?ey ?gz ?gA ?ko ?nA ?nB ?OM ?OO ?OP A9.out).mono ?_);(case bk=>exact Kd.bU J0.out pW);(case bI=>exact J1.out);(case cO=>exact Kd.bU J2.out pW);(case ey=>exact J3.out);(case gz=>exact Kd.bU J4.out pW);(case gA=>exact J5.out);(case ko=>exact Kd.bU J6.out pW);(case nA=>exact J7.out);(case nB=>exact Kd.bU J8.out pW);(case OM=>exact J9.out);(case OO=>exact Kd.bU Ka.out pW);(case OP=>exact Kb.out);rintro e zk ⟨rfl,hb⟩;replace eF:=ah.mk (az (g:=bK) (o:= .cells #[.int .i64 ((aj l0 aH).f0),.bool ((aj l0 aH).f1.f0),.slice gp ((aj l0 aH).f1.f1).length gu,.string ((aj l0 aH).f1.f2.f0),.string ((aj l0 aH).f1.f2.f1),.bool ((aj l0 aH).f1.f2.f2),.slice iD ((aj l0 aH).f2).length iE,.slice jc ((aj l0 aH).f3).length jd,.int .i64 ((aj l0 aH).f4)] 34 (0,0)) Wd hb);replace jf:=ah.mk (az (g:=lQ) (o:= .cells #[.int .i64 ((aj l1 aH).f0),.bool ((aj l1 aH).f1.f0),.slice uP ((aj l1 aH).f1.f1).length uQ,.string ((aj l1 aH).f1.f2.f0),.string ((aj l1 aH).f1.f2.f1),.bool ((aj l1 aH).f1.f2.f2),.slice Er ((aj l1 aH).f2).length Es,.slice Hj ((aj l1 aH).f3).length Hl,.int .i64 ((aj l1 aH).f4)] 34 (0,0)) V3 hb);replace HB:=ah.mk (av pW hb);(try clear hb)))
      go_ret
      exact ⟨by rfl,aI⟩
    ·rw [if_neg c5] at H
     have qu:=decide_eq_false c5
     clear c5
     obtain rfl:=Option.some.inj H
     go_wp2
     go_ret
     exact ⟨by rfl,aI⟩
 ·rw [if_neg c4] at H
  have ng:=beq_eq_false_iff_ne.mpr c4
  have BC:=bne_iff_ne.mpr c4
  have aDK:(l0.length == l1.length)=false:=by (simp at c4 ⊢;omega)
  obtain rfl:=Option.some.inj H
  go_enter Tryz.func69,Tryz.ntmps69
  go_wp2
  go_ret
  exact ⟨by rfl,aI⟩
def lf.f (k:Nat) (bu:Int) (aT:List (pO)) (jh:Int) (BO:List (pO)):Option (Bool):=if bu=jh then ((aC.f k aT BO).bind fun t301=>(some t301)) else (some false)
theorem lf.mono:∀ a0 a1 a2 a3 k,fP (lf.f k a0 a1 a2 a3) (lf.f (k + 1) a0 a1 a2 a3):=by
 intro a0 a1 a2 a3 k
 unfold lf.f
 repeat' (with_reducible first|exact aC.mono _ _ _|exact fP.refl _|refine fP.ite ?_ ?_|refine fP.bind ?_ (fun _ =>?_))
theorem lf.calls (k:Nat) (bu:Int) (kj:Option Addr) (jA:Nat) (aT:List (pO)) (jh:Int) (U7:Option Addr) (U8:Nat) (BO:List (pO)) (r:Bool) (w:World) (qU:Kd.C Bz w kj aT.length aT) (qV:aT.length≤jA) (ae6:Kd.C Bz w U7 BO.length BO) (ae7:BO.length≤U8) (h:lf.f k bu aT jh BO=some r):
 Calls Tryz.prog 25 #[.agg #[.int .i64 bu,.slice kj aT.length jA],.agg #[.int .i64 jh,.slice U7 BO.length U8]] w fun e w'=>e= .returned (.bool r)∧Below w.heap.size w w':=by
 have UT:=Tryz.underlying40
 have yJ:=ah.mk qU
 have GL:=ah.mk qV
 clear qU qV
 have anZ:=ah.mk ae6
 have an0:=ah.mk ae7
 clear ae6 ae7
 have HB:=ah.mk (Below.refl w.heap.size w)
 have H:(if bu=jh then ((aC.f k aT BO).bind fun t301=>(some t301)) else (some false))=some r:=h
 clear h
 by_cases c3:bu=jh
 ·rw [if_pos c3] at H
  have nT:=beq_iff_eq.mpr c3
  have tZ:=bne_eq_false_iff_eq.mpr c3
  clear c3
  obtain ⟨t301,A4,H⟩:=bd_ H
  obtain rfl:=Option.some.inj H
  go_enter Tryz.func25,Tryz.ntmps25
  go_wp2_with (first|((with_reducible refine bw (N:=2) rfl ?_);refine bA ?hg (N:=2) ?hd (cs:=#[.int .i64 bu,.slice kj aT.length jA]) (t:=40) ?hr ?_;(case hd=>rfl);(case hg=>rfl);(case hr=>(go_simp;done));intro uD hg w5 bH hb;have uv:=ah.mk (bH);have an1:=ah.mk ((bG:w.heap.size≤uD));have an2:=ah.mk ((bG:w.heap.size≤uD));replace HB:=ah.mk (av aI hb);clear hb bH hg)|((with_reducible refine bw (N:=3) rfl ?_);refine bA ?hg (N:=3) ?hd (cs:=#[.int .i64 jh,.slice U7 BO.length U8]) (t:=40) ?hr ?_;(case hd=>rfl);(case hg=>rfl);(case hr=>(go_simp;done));intro uE hg w6 bH hb;have xA:=ah.mk (bH);have an3:=ah.mk ((bG:w.heap.size≤uE));have an4:=ah.mk ((bG:w.heap.size≤uE));replace HB:=ah.mk (av aI hb);have BP:=ah.mk ((by rw [hg];exact Nat.ne_of_lt (eD u9):uD≠uE));have BQ:=ah.mk ((by rw [hg];exact Nat.ne_of_gt (eD u9):uE≠uD));replace uv:=ah.mk (az u9 hb);clear hb bH hg;have ai7:=BP.out;have ai8:=BQ.out;have ES:w6.cell? ⟨uD,0,none⟩=some (.int .i64 bu):=(af uv.out 0).trans rfl;have ET:w6.cell? ⟨uD,1,none⟩=some (.slice kj aT.length jA):=(af uv.out 1).trans rfl;have EU:=aa uv.out 0;have EW:=aa uv.out 1;have BF:w6.cell? ⟨uE,0,none⟩=some (.int .i64 jh):=(af xA.out 0).trans rfl;have BG:w6.cell? ⟨uE,1,none⟩=some (.slice U7 BO.length U8):=(af xA.out 1).trans rfl;have BH:=aa xA.out 0;have BI:=aa xA.out 1)|(go_at_call 69;(with_reducible refine (aC.calls k _ _ aT _ _ BO t301 _ ?bk ?bI ?cO ?ey A4.out).mono ?_);(case bk=>repeat (exact (Kd.bU yJ.out HB.out)));(case bI=>exact GL.out);(case cO=>repeat (exact (Kd.bU anZ.out HB.out)));(case ey=>exact an0.out);rintro e qw ⟨rfl,hb⟩;replace uv:=ah.mk (az u9 hb);replace xA:=ah.mk (az (by exact xA.out) hb);replace HB:=ah.mk (av aI hb);(try clear hb)))
  go_ret
  exact ⟨by rfl,aI⟩
 ·rw [if_neg c3] at H
  have nT:=beq_eq_false_iff_ne.mpr c3
  have tZ:=bne_iff_ne.mpr c3
  obtain rfl:=Option.some.inj H
  go_enter Tryz.func25,Tryz.ntmps25
  go_wp2_with (first|((with_reducible refine bw (N:=2) rfl ?_);refine bA ?hg (N:=2) ?hd (cs:=#[.int .i64 bu,.slice kj aT.length jA]) (t:=40) ?hr ?_;(case hd=>rfl);(case hg=>rfl);(case hr=>(go_simp;done));intro uD hg yj bH hb;have uv:=ah.mk (bH);have an1:=ah.mk ((bG:w.heap.size≤uD));have an2:=ah.mk ((bG:w.heap.size≤uD));replace HB:=ah.mk (av aI hb);clear hb bH hg)|((with_reducible refine bw (N:=3) rfl ?_);refine bA ?hg (N:=3) ?hd (cs:=#[.int .i64 jh,.slice U7 BO.length U8]) (t:=40) ?hr ?_;(case hd=>rfl);(case hg=>rfl);(case hr=>(go_simp;done));intro uE hg BJ bH hb;have xA:=ah.mk (bH);have an3:=ah.mk ((bG:w.heap.size≤uE));have an4:=ah.mk ((bG:w.heap.size≤uE));replace HB:=ah.mk (av aI hb);have BP:=ah.mk ((by rw [hg];exact Nat.ne_of_lt (eD u9):uD≠uE));have BQ:=ah.mk ((by rw [hg];exact Nat.ne_of_gt (eD u9):uE≠uD));replace uv:=ah.mk (az u9 hb);clear hb bH hg;have ajb:=BP.out;have ajc:=BQ.out;have Aa:BJ.cell? ⟨uD,0,none⟩=some (.int .i64 bu):=(af uv.out 0).trans rfl;have Ab:BJ.cell? ⟨uD,1,none⟩=some (.slice kj aT.length jA):=(af uv.out 1).trans rfl;have Ac:=aa uv.out 0;have Ad:=aa uv.out 1;have JV:BJ.cell? ⟨uE,0,none⟩=some (.int .i64 jh):=(af xA.out 0).trans rfl;have JW:BJ.cell? ⟨uE,1,none⟩=some (.slice U7 BO.length U8):=(af xA.out 1).trans rfl;have JX:=aa xA.out 0;have JY:=aa xA.out 1))
  go_ret
  exact ⟨by rfl,aI⟩
end Go.Proofs.YtbjjaaodfbjkfaaGreatDoor.ow
