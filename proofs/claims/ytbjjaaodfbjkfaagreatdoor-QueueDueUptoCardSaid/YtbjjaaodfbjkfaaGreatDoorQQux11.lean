import Derived.Test.YtbjjaaodfbjkfaaGreatDoorQQux10
namespace Go.Proofs.YtbjjaaodfbjkfaaGreatDoor.ow
open Go.RowKit Go.Proofs.YtbjjaaodfbjkfaaGreatDoor.zi Go.Proofs.ak.bY Go.Proofs.ak.dU Go.Proofs.ak.dJ
attribute [local go_sem] jt ju kH kI iw iy jv jw
set_option linter.unusedVariables false
set_option linter.unusedSimpArgs false
def cW.j0:Nat→Int→Bool→Int→Int→Int→Int→Int→Bool→List ByteArray→ByteArray→ByteArray→Bool→List (jN)→List Int→Int→Option (Bool)
 | 0,_,_,_,_,_,_,_,_,_,_,_,_,_,_,_ =>none
 |k + 1,nX,x53,avU,avV,acg,SZ,S0,S3,S4,S5,S6,S7,S8,S9,Ta=>if x53=true then (if SZ=0 then ((dK.f S0 S3 S4 S5 S6 S7 S8 S9 Ta).bind fun t229=>(some t229)) else (some false)) else (if nX=6 then (if (wrap64 (acg + SZ))=0 then ((dK.f S0 S3 S4 S5 S6 S7 S8 S9 Ta).bind fun t230=>(some t230)) else (some false)) else (some false))
def cW.f (k:Nat) (bu:Int) (bX:Int) (cK:Int) (bL:Int) (bQ:Int) (b9:Bool) (bT:List ByteArray) (gX:ByteArray) (cg:ByteArray) (gY:Bool) (eI:List (jN)) (eJ:List Int) (fI:Int):Option (Bool):=(dm.f k (([bX,cK,bL]:List Int))).bind fun t224=>(if t224=true then (if bu=1 then (if (wrap64 ((wrap64 (bX + cK)) + bL))=0 then ((ig.f k bQ b9 bT gX cg gY eI eJ fI).bind fun t225=>(some t225)) else (some false)) else (if bu=5 then (if (wrap64 (cK + bL))=0 then ((dK.f bQ b9 bT gX cg gY eI eJ fI).bind fun t226=>(if t226=true then (some true) else ((ig.f k bQ b9 bT gX cg gY eI eJ fI).bind fun t227=>(some t227)))) else (some false)) else (if bu=2 then ((dK.f bQ b9 bT gX cg gY eI eJ fI).bind fun t228=>(some t228)) else (if bu=3 then (cW.j0 k bu (bu == 3) bu bX cK bL bQ b9 bT gX cg gY eI eJ fI) else (cW.j0 k bu (bu == 4) bu bX cK bL bQ b9 bT gX cg gY eI eJ fI))))) else (some false))
theorem cW.eY:∀ k,(∀ y0 y1 y2 y3 y4 y5 y6 y7 y8 y9 y10 y11 y12 y13 y14,fP (cW.j0 k y0 y1 y2 y3 y4 y5 y6 y7 y8 y9 y10 y11 y12 y13 y14) (cW.j0 (k + 1) y0 y1 y2 y3 y4 y5 y6 y7 y8 y9 y10 y11 y12 y13 y14))
 | 0=>fun _ _ _ _ _ _ _ _ _ _ _ _ _ _ _ r h=>by simp [cW.j0] at h
 |k + 1=>by
  have nY:=cW.eY k
  ·intro y0 y1 y2 y3 y4 y5 y6 y7 y8 y9 y10 y11 y12 y13 y14
   unfold cW.j0
   repeat' (with_reducible exact fP.refl _)
theorem cW.mono:∀ a0 a1 a2 a3 a4 a5 a6 a7 a8 a9 XR XS a12 k,fP (cW.f k a0 a1 a2 a3 a4 a5 a6 a7 a8 a9 XR XS a12) (cW.f (k + 1) a0 a1 a2 a3 a4 a5 a6 a7 a8 a9 XR XS a12):=by
 intro a0 a1 a2 a3 a4 a5 a6 a7 a8 a9 XR XS a12 k
 have nY:=cW.eY k
 unfold cW.f
 repeat' (with_reducible first|exact nY _ _ _ _ _ _ _ _ _ _ _ _ _ _ _|exact ig.mono _ _ _ _ _ _ _ _ _ _|exact dm.mono _ _|exact fP.refl _|refine fP.ite ?_ ?_|refine fP.bind ?_ (fun _ =>?_))
set_option maxHeartbeats 8000000 in
set_option maxRecDepth 100000 in
theorem cW.calls (k:Nat) (bu:Int) (bX:Int) (cK:Int) (bL:Int) (bQ:Int) (b9:Bool) (dA:Option Addr) (dw:Nat) (bT:List ByteArray) (gX:ByteArray) (cg:ByteArray) (gY:Bool) (iV:Option Addr) (iW:Nat) (eI:List (jN)) (iX:Option Addr) (iY:Nat) (eJ:List Int) (fI:Int) (r:Bool) (w:World) (oc:Kd.C Kd.string w dA bT.length bT) (oG:bT.length≤dw) (Fg:Kd.C sN w iV eI.length eI) (Fh:eI.length≤iW) (Fi:Kd.C (Kd.int .u8) w iX eJ.length eJ) (Fj:eJ.length≤iY) (hG:bB w) (h:cW.f k bu bX cK bL bQ b9 bT gX cg gY eI eJ fI=some r):
 Calls Tryz.prog 58 #[.agg #[.int .u8 bu,.int .i64 bX,.int .i64 cK,.int .i64 bL,.int .i64 bQ,.bool b9,.slice dA bT.length dw,.string gX,.string cg,.bool gY,.slice iV eI.length iW,.slice iX eJ.length iY,.int .i64 fI]] w fun e w'=>e= .returned (.bool r)∧Below w.heap.size w w':=by
 have ag2:=Tryz.underlying46
 have CM:=Tryz.underlying34
 have mQ:=ah.mk oc
 have nW:=ah.mk oG
 clear oc oG
 have vR:=ah.mk Fg
 have vS:=ah.mk Fh
 clear Fg Fh
 have vT:=ah.mk Fi
 have vU:=ah.mk Fj
 clear Fi Fj
 have HB:=ah.mk (Below.refl w.heap.size w)
 have HG:=ah.mk hG
 clear hG
 have H:((dm.f k (([bX,cK,bL]:List Int))).bind fun t224=>(if t224=true then (if bu=1 then (if (wrap64 ((wrap64 (bX + cK)) + bL))=0 then ((ig.f k bQ b9 bT gX cg gY eI eJ fI).bind fun t225=>(some t225)) else (some false)) else (if bu=5 then (if (wrap64 (cK + bL))=0 then ((dK.f bQ b9 bT gX cg gY eI eJ fI).bind fun t226=>(if t226=true then (some true) else ((ig.f k bQ b9 bT gX cg gY eI eJ fI).bind fun t227=>(some t227)))) else (some false)) else (if bu=2 then ((dK.f bQ b9 bT gX cg gY eI eJ fI).bind fun t228=>(some t228)) else (if bu=3 then (cW.j0 k bu (bu == 3) bu bX cK bL bQ b9 bT gX cg gY eI eJ fI) else (cW.j0 k bu (bu == 4) bu bX cK bL bQ b9 bT gX cg gY eI eJ fI))))) else (some false)))=some r:=h
 clear h
 obtain ⟨xz,XT⟩:∃ y_:List Int,y_=(([bX,cK,bL]:List Int)):=⟨_,rfl⟩
 replace H:((dm.f k xz).bind fun t224=>(if t224=true then (if bu=1 then (if (wrap64 ((wrap64 (bX + cK)) + bL))=0 then ((ig.f k bQ b9 bT gX cg gY eI eJ fI).bind fun t225=>(some t225)) else (some false)) else (if bu=5 then (if (wrap64 (cK + bL))=0 then ((dK.f bQ b9 bT gX cg gY eI eJ fI).bind fun t226=>(if t226=true then (some true) else ((ig.f k bQ b9 bT gX cg gY eI eJ fI).bind fun t227=>(some t227)))) else (some false)) else (if bu=2 then ((dK.f bQ b9 bT gX cg gY eI eJ fI).bind fun t228=>(some t228)) else (if bu=3 then (cW.j0 k bu (bu == 3) bu bX cK bL bQ b9 bT gX cg gY eI eJ fI) else (cW.j0 k bu (bu == 4) bu bX cK bL bQ b9 bT gX cg gY eI eJ fI))))) else (some false)))=some r:=by (rw [XT];with_reducible exact H)
 have CA:=ah.mk XT
 clear XT
 obtain ⟨t224,A2,H⟩:=bd_ H
 by_cases c3:t224=true
 ·subst c3
  rw [if_pos rfl] at H
  by_cases c4:bu=1
  ·rw [if_pos c4] at H
   have ng:=beq_iff_eq.mpr c4
   have BC:=bne_eq_false_iff_eq.mpr c4
   clear c4
   by_cases c5:(wrap64 ((wrap64 (bX + cK)) + bL))=0
   ·rw [if_pos c5] at H
    have qu:=beq_iff_eq.mpr c5
    have N6:=bne_eq_false_iff_eq.mpr c5
    clear c5
    obtain ⟨t225,A6,H⟩:=bd_ H
    obtain rfl:=Option.some.inj H
    go_enter Tryz.func58,Tryz.ntmps58
    go_wp2_with (first|((with_reducible refine bw (N:=1) rfl ?_);refine bA ?hg (N:=1) ?hd (cs:=#[.int .u8 bu,.int .i64 bX,.int .i64 cK,.int .i64 bL,.int .i64 bQ,.bool b9,.slice dA bT.length dw,.string gX,.string cg,.bool gY,.slice iV eI.length iW,.slice iX eJ.length iY,.int .i64 fI]) (t:=46) ?hr ?_;(case hd=>rfl);(case hg=>rfl);(case hr=>(go_simp;done));intro bz hg w7 bH hb;have aD:=ah.mk (bH);have Fk:=ah.mk ((bG:w.heap.size≤bz));have Fl:=ah.mk ((bG:w.heap.size≤bz));replace HB:=ah.mk (av aI hb);clear hb bH hg;have ES:w7.cell? ⟨bz,0,none⟩=some (.int .u8 bu):=(af aD.out 0).trans rfl;have ET:w7.cell? ⟨bz,1,none⟩=some (.int .i64 bX):=(af aD.out 1).trans rfl;have W7:w7.cell? ⟨bz,2,none⟩=some (.int .i64 cK):=(af aD.out 2).trans rfl;have afX:w7.cell? ⟨bz,3,none⟩=some (.int .i64 bL):=(af aD.out 3).trans rfl;have afY:w7.cell? ⟨bz,4,none⟩=some (.int .i64 bQ):=(af aD.out 4).trans rfl;have afZ:w7.cell? ⟨bz,5,none⟩=some (.bool b9):=(af aD.out 5).trans rfl;have af0:w7.cell? ⟨bz,6,none⟩=some (.slice dA bT.length dw):=(af aD.out 6).trans rfl;have af1:w7.cell? ⟨bz,7,none⟩=some (.string gX):=(af aD.out 7).trans rfl;have af2:w7.cell? ⟨bz,8,none⟩=some (.string cg):=(af aD.out 8).trans rfl;have aDk:w7.cell? ⟨bz,9,none⟩=some (.bool gY):=(af aD.out 9).trans rfl;have avW:w7.cell? ⟨bz,10,none⟩=some (.slice iV eI.length iW):=(af aD.out 10).trans rfl;have avX:w7.cell? ⟨bz,11,none⟩=some (.slice iX eJ.length iY):=(af aD.out 11).trans rfl;have avY:w7.cell? ⟨bz,12,none⟩=some (.int .i64 fI):=(af aD.out 12).trans rfl;have EU:=aa aD.out 0;have EW:=aa aD.out 1;have W8:=aa aD.out 2;have af3:=aa aD.out 3;have af4:=aa aD.out 4;have af5:=aa aD.out 5;have af6:=aa aD.out 6;have af7:=aa aD.out 7;have af8:=aa aD.out 8;have aDl:=aa aD.out 9;have avZ:=aa aD.out 10;have av0:=aa aD.out 11;have av1:=aa aD.out 12)|((with_reducible refine bw (N:=9) rfl ?_);refine Kd.oa (Kd.int .i64) _ 3 ?hg (N:=9) ?hd (xs:=([bX,cK,bL]:List Int)) (inner:=[.int .i64 bX,.int .i64 cK,.int .i64 bL]) (ok:=fun _ =>True) (qK:=fun _ =>True) ?hr ?hp (fun _ hk=>hk) trivial (Below.refl _ _) (Nat.le_refl _) dz ?_;(case hd=>rfl);(case hg=>rfl);(case hr=>(go_simp;done));(case hp=>exact (eo.one (show Kd.M (Kd.int .i64) _ _ _ bX [.int .i64 bX] from rfl) (eo.one (show Kd.M (Kd.int .i64) _ _ _ cK [.int .i64 cK] from rfl) (eo.one (show Kd.M (Kd.int .i64) _ _ _ bL [.int .i64 bL] from rfl) (eo.none _ _)))));intro v222 w9 ag3 hb sP iC;clear sP iC;(rw [← CA.out] at ag3);have jD:=ah.mk (Kd.dY ag3 (bV aI));replace aD:=ah.mk (az mR hb);replace HB:=ah.mk (av aI hb);clear hb ag3;obtain ⟨ug,uh,XU⟩:=Kd.dF jD.out;subst XU)|((with_reducible refine bE (f:=102) rfl ?_);refine dg (some 10) rfl rfl Tryz.func102 au rfl #[.slice ug xz.length uh] rfl dM ?_;(with_reducible refine (dm.calls k _ _ xz true _ ?bk ?bI A2.out).mono ?_);(case bk=>repeat (exact (Kd.bW jD.out).2.2));(case bI=>exact (Kd.bW jD.out).2.1);rintro e w' ⟨rfl,⟨nd,rfl⟩⟩;refine ⟨_,rfl,?_⟩;have ya:w9.cell? ⟨bz,0,none⟩=some (.int .u8 bu):=(af aD.out 0).trans rfl;have yc:w9.cell? ⟨bz,1,none⟩=some (.int .i64 bX):=(af aD.out 1).trans rfl;have z7:w9.cell? ⟨bz,2,none⟩=some (.int .i64 cK):=(af aD.out 2).trans rfl;have Dl:w9.cell? ⟨bz,3,none⟩=some (.int .i64 bL):=(af aD.out 3).trans rfl;have Dm:w9.cell? ⟨bz,4,none⟩=some (.int .i64 bQ):=(af aD.out 4).trans rfl;have Dn:w9.cell? ⟨bz,5,none⟩=some (.bool b9):=(af aD.out 5).trans rfl;have Dp:w9.cell? ⟨bz,6,none⟩=some (.slice dA bT.length dw):=(af aD.out 6).trans rfl;have Dq:w9.cell? ⟨bz,7,none⟩=some (.string gX):=(af aD.out 7).trans rfl;have Dr:w9.cell? ⟨bz,8,none⟩=some (.string cg):=(af aD.out 8).trans rfl;have av2:w9.cell? ⟨bz,9,none⟩=some (.bool gY):=(af aD.out 9).trans rfl;have alh:w9.cell? ⟨bz,10,none⟩=some (.slice iV eI.length iW):=(af aD.out 10).trans rfl;have ali:w9.cell? ⟨bz,11,none⟩=some (.slice iX eJ.length iY):=(af aD.out 11).trans rfl;have alj:w9.cell? ⟨bz,12,none⟩=some (.int .i64 fI):=(af aD.out 12).trans rfl;have yf:=aa aD.out 0;have yg:=aa aD.out 1;have z8:=aa aD.out 2;have Ds:=aa aD.out 3;have Dt:=aa aD.out 4;have Du:=aa aD.out 5;have Dv:=aa aD.out 6;have Dw:=aa aD.out 7;have Dx:=aa aD.out 8;have av3:=aa aD.out 9;have alk:=aa aD.out 10;have alm:=aa aD.out 11;have aln:=aa aD.out 12)|(go_at_call 71;(with_reducible refine (ig.calls k bQ b9 _ _ bT gX cg gY _ _ eI _ _ eJ fI t225 _ ?bk ?bI ?cO ?ey ?gz ?gA ?ko A6.out).mono ?_);(case bk=>repeat (exact (Kd.bU mQ.out eB)));(case bI=>exact nW.out);(case cO=>repeat (exact (Kd.bU vR.out eB)));(case ey=>exact vS.out);(case gz=>repeat (exact (Kd.bU vT.out eB)));(case gA=>exact vU.out);(case ko=>exact bB.below HG.out eB);rintro e ni ⟨rfl,hb⟩;replace jD:=ah.mk (Kd.bq C8 hb);replace aD:=ah.mk (az mR hb);replace HB:=ah.mk (av eB hb);(try clear hb)))
    go_ret
    exact ⟨by rfl,aI⟩
   ·rw [if_neg c5] at H
    have qu:=beq_eq_false_iff_ne.mpr c5
    have N6:=bne_iff_ne.mpr c5
    obtain rfl:=Option.some.inj H
    go_enter Tryz.func58,Tryz.ntmps58
    go_wp2_with (first|((with_reducible refine bw (N:=1) rfl ?_);refine bA ?hg (N:=1) ?hd (cs:=#[.int .u8 bu,.int .i64 bX,.int .i64 cK,.int .i64 bL,.int .i64 bQ,.bool b9,.slice dA bT.length dw,.string gX,.string cg,.bool gY,.slice iV eI.length iW,.slice iX eJ.length iY,.int .i64 fI]) (t:=46) ?hr ?_;(case hd=>rfl);(case hg=>rfl);(case hr=>(go_simp;done));intro bz hg Np bH hb;have aD:=ah.mk (bH);have Fk:=ah.mk ((bG:w.heap.size≤bz));have Fl:=ah.mk ((bG:w.heap.size≤bz));replace HB:=ah.mk (av aI hb);clear hb bH hg;have JV:Np.cell? ⟨bz,0,none⟩=some (.int .u8 bu):=(af aD.out 0).trans rfl;have JW:Np.cell? ⟨bz,1,none⟩=some (.int .i64 bX):=(af aD.out 1).trans rfl;have Tb:Np.cell? ⟨bz,2,none⟩=some (.int .i64 cK):=(af aD.out 2).trans rfl;have Tc:Np.cell? ⟨bz,3,none⟩=some (.int .i64 bL):=(af aD.out 3).trans rfl;have Td:Np.cell? ⟨bz,4,none⟩=some (.int .i64 bQ):=(af aD.out 4).trans rfl;have Te:Np.cell? ⟨bz,5,none⟩=some (.bool b9):=(af aD.out 5).trans rfl;have Tf:Np.cell? ⟨bz,6,none⟩=some (.slice dA bT.length dw):=(af aD.out 6).trans rfl;have Tg:Np.cell? ⟨bz,7,none⟩=some (.string gX):=(af aD.out 7).trans rfl;have Th:Np.cell? ⟨bz,8,none⟩=some (.string cg):=(af aD.out 8).trans rfl;have av4:Np.cell? ⟨bz,9,none⟩=some (.bool gY):=(af aD.out 9).trans rfl;have alo:Np.cell? ⟨bz,10,none⟩=some (.slice iV eI.length iW):=(af aD.out 10).trans rfl;have alp:Np.cell? ⟨bz,11,none⟩=some (.slice iX eJ.length iY):=(af aD.out 11).trans rfl;have alq:Np.cell? ⟨bz,12,none⟩=some (.int .i64 fI):=(af aD.out 12).trans rfl;have JX:=aa aD.out 0;have JY:=aa aD.out 1;have Ti:=aa aD.out 2;have Tj:=aa aD.out 3;have Tk:=aa aD.out 4;have Tm:=aa aD.out 5;have Tn:=aa aD.out 6;have Tp:=aa aD.out 7;have Tq:=aa aD.out 8;have av5:=aa aD.out 9;have alr:=aa aD.out 10;have als:=aa aD.out 11;have alu:=aa aD.out 12)|((with_reducible refine bw (N:=9) rfl ?_);refine Kd.oa (Kd.int .i64) _ 3 ?hg (N:=9) ?hd (xs:=([bX,cK,bL]:List Int)) (inner:=[.int .i64 bX,.int .i64 cK,.int .i64 bL]) (ok:=fun _ =>True) (qK:=fun _ =>True) ?hr ?hp (fun _ hk=>hk) trivial (Below.refl _ _) (Nat.le_refl _) dz ?_;(case hd=>rfl);(case hg=>rfl);(case hr=>(go_simp;done));(case hp=>exact (eo.one (show Kd.M (Kd.int .i64) _ _ _ bX [.int .i64 bX] from rfl) (eo.one (show Kd.M (Kd.int .i64) _ _ _ cK [.int .i64 cK] from rfl) (eo.one (show Kd.M (Kd.int .i64) _ _ _ bL [.int .i64 bL] from rfl) (eo.none _ _)))));intro v222 uz ag4 hb sP iC;clear sP iC;(rw [← CA.out] at ag4);have jD:=ah.mk (Kd.dY ag4 (bV aI));replace aD:=ah.mk (az mR hb);replace HB:=ah.mk (av aI hb);clear hb ag4;obtain ⟨XV,XW,ag5⟩:=Kd.dF jD.out;subst ag5)|((with_reducible refine bE (f:=102) rfl ?_);refine dg (some 10) rfl rfl Tryz.func102 au rfl #[.slice XV xz.length XW] rfl dM ?_;(with_reducible refine (dm.calls k _ _ xz true _ ?bk ?bI A2.out).mono ?_);(case bk=>repeat (exact (Kd.bW jD.out).2.2));(case bI=>exact (Kd.bW jD.out).2.1);rintro e w' ⟨rfl,⟨nd,rfl⟩⟩;refine ⟨_,rfl,?_⟩;have IY:uz.cell? ⟨bz,0,none⟩=some (.int .u8 bu):=(af aD.out 0).trans rfl;have IZ:uz.cell? ⟨bz,1,none⟩=some (.int .i64 bX):=(af aD.out 1).trans rfl;have I0:uz.cell? ⟨bz,2,none⟩=some (.int .i64 cK):=(af aD.out 2).trans rfl;have I1:uz.cell? ⟨bz,3,none⟩=some (.int .i64 bL):=(af aD.out 3).trans rfl;have I2:uz.cell? ⟨bz,4,none⟩=some (.int .i64 bQ):=(af aD.out 4).trans rfl;have I3:uz.cell? ⟨bz,5,none⟩=some (.bool b9):=(af aD.out 5).trans rfl;have I4:uz.cell? ⟨bz,6,none⟩=some (.slice dA bT.length dw):=(af aD.out 6).trans rfl;have I5:uz.cell? ⟨bz,7,none⟩=some (.string gX):=(af aD.out 7).trans rfl;have I6:uz.cell? ⟨bz,8,none⟩=some (.string cg):=(af aD.out 8).trans rfl;have av6:uz.cell? ⟨bz,9,none⟩=some (.bool gY):=(af aD.out 9).trans rfl;have alv:uz.cell? ⟨bz,10,none⟩=some (.slice iV eI.length iW):=(af aD.out 10).trans rfl;have alx:uz.cell? ⟨bz,11,none⟩=some (.slice iX eJ.length iY):=(af aD.out 11).trans rfl;have aly:uz.cell? ⟨bz,12,none⟩=some (.int .i64 fI):=(af aD.out 12).trans rfl;have I7:=aa aD.out 0;have I8:=aa aD.out 1;have I9:=aa aD.out 2;have Ja:=aa aD.out 3;have Jb:=aa aD.out 4;have Jc:=aa aD.out 5;have Jd:=aa aD.out 6;have Je:=aa aD.out 7;have Jf:=aa aD.out 8;have av7:=aa aD.out 9;have alz:=aa aD.out 10;have alA:=aa aD.out 11;have alB:=aa aD.out 12))
    go_ret
    exact ⟨by rfl,eB⟩
  ·rw [if_neg c4] at H
   have ng:=beq_eq_false_iff_ne.mpr c4
   have BC:=bne_iff_ne.mpr c4
   by_cases c20:bu=5
   ·rw [if_pos c20] at H
    have Rp:=beq_iff_eq.mpr c20
    have Rq:=bne_eq_false_iff_eq.mpr c20
    clear c20
    by_cases c21:(wrap64 (cK + bL))=0
    ·rw [if_pos c21] at H
     have ae2:=beq_iff_eq.mpr c21
     have ae3:=bne_eq_false_iff_eq.mpr c21
     clear c21
     obtain ⟨t226,A22,H⟩:=bd_ H
     by_cases c23:t226=true
     ·subst c23
      rw [if_pos rfl] at H
      obtain rfl:=Option.some.inj H
      go_enter Tryz.func58,Tryz.ntmps58
      go_wp2_with (first|((with_reducible refine bw (N:=1) rfl ?_);refine bA ?hg (N:=1) ?hd (cs:=#[.int .u8 bu,.int .i64 bX,.int .i64 cK,.int .i64 bL,.int .i64 bQ,.bool b9,.slice dA bT.length dw,.string gX,.string cg,.bool gY,.slice iV eI.length iW,.slice iX eJ.length iY,.int .i64 fI]) (t:=46) ?hr ?_;(case hd=>rfl);(case hg=>rfl);(case hr=>(go_simp;done));intro bz hg zk bH hb;have aD:=ah.mk (bH);have Fk:=ah.mk ((bG:w.heap.size≤bz));have Fl:=ah.mk ((bG:w.heap.size≤bz));replace HB:=ah.mk (av aI hb);clear hb bH hg;have D4:zk.cell? ⟨bz,0,none⟩=some (.int .u8 bu):=(af aD.out 0).trans rfl;have D5:zk.cell? ⟨bz,1,none⟩=some (.int .i64 bX):=(af aD.out 1).trans rfl;have D6:zk.cell? ⟨bz,2,none⟩=some (.int .i64 cK):=(af aD.out 2).trans rfl;have Jm:zk.cell? ⟨bz,3,none⟩=some (.int .i64 bL):=(af aD.out 3).trans rfl;have Jn:zk.cell? ⟨bz,4,none⟩=some (.int .i64 bQ):=(af aD.out 4).trans rfl;have Qu:zk.cell? ⟨bz,5,none⟩=some (.bool b9):=(af aD.out 5).trans rfl;have Qv:zk.cell? ⟨bz,6,none⟩=some (.slice dA bT.length dw):=(af aD.out 6).trans rfl;have Qw:zk.cell? ⟨bz,7,none⟩=some (.string gX):=(af aD.out 7).trans rfl;have Qx:zk.cell? ⟨bz,8,none⟩=some (.string cg):=(af aD.out 8).trans rfl;have av8:zk.cell? ⟨bz,9,none⟩=some (.bool gY):=(af aD.out 9).trans rfl;have alC:zk.cell? ⟨bz,10,none⟩=some (.slice iV eI.length iW):=(af aD.out 10).trans rfl;have alD:zk.cell? ⟨bz,11,none⟩=some (.slice iX eJ.length iY):=(af aD.out 11).trans rfl;have alE:zk.cell? ⟨bz,12,none⟩=some (.int .i64 fI):=(af aD.out 12).trans rfl;have D7:=aa aD.out 0;have D8:=aa aD.out 1;have D9:=aa aD.out 2;have Jo:=aa aD.out 3;have Jp:=aa aD.out 4;have Qy:=aa aD.out 5;have Qz:=aa aD.out 6;have QA:=aa aD.out 7;have QB:=aa aD.out 8;have av9:=aa aD.out 9;have alF:=aa aD.out 10;have alG:=aa aD.out 11;have alH:=aa aD.out 12)|((with_reducible refine bw (N:=9) rfl ?_);refine Kd.oa (Kd.int .i64) _ 3 ?hg (N:=9) ?hd (xs:=([bX,cK,bL]:List Int)) (inner:=[.int .i64 bX,.int .i64 cK,.int .i64 bL]) (ok:=fun _ =>True) (qK:=fun _ =>True) ?hr ?hp (fun _ hk=>hk) trivial (Below.refl _ _) (Nat.le_refl _) dz ?_;(case hd=>rfl);(case hg=>rfl);(case hr=>(go_simp;done));(case hp=>exact (eo.one (show Kd.M (Kd.int .i64) _ _ _ bX [.int .i64 bX] from rfl) (eo.one (show Kd.M (Kd.int .i64) _ _ _ cK [.int .i64 cK] from rfl) (eo.one (show Kd.M (Kd.int .i64) _ _ _ bL [.int .i64 bL] from rfl) (eo.none _ _)))));intro v222 Nq ag7 hb sP iC;clear sP iC;(rw [← CA.out] at ag7);have jD:=ah.mk (Kd.dY ag7 (bV aI));replace aD:=ah.mk (az mR hb);replace HB:=ah.mk (av aI hb);clear hb ag7;obtain ⟨ach,aci,ag8⟩:=Kd.dF jD.out;subst ag8)|((with_reducible refine bE (f:=102) rfl ?_);refine dg (some 10) rfl rfl Tryz.func102 au rfl #[.slice ach xz.length aci] rfl dM ?_;(with_reducible refine (dm.calls k _ _ xz true _ ?bk ?bI A2.out).mono ?_);(case bk=>repeat (exact (Kd.bW jD.out).2.2));(case bI=>exact (Kd.bW jD.out).2.1);rintro e w' ⟨rfl,⟨nd,rfl⟩⟩;refine ⟨_,rfl,?_⟩;have aam:Nq.cell? ⟨bz,0,none⟩=some (.int .u8 bu):=(af aD.out 0).trans rfl;have aan:Nq.cell? ⟨bz,1,none⟩=some (.int .i64 bX):=(af aD.out 1).trans rfl;have aao:Nq.cell? ⟨bz,2,none⟩=some (.int .i64 cK):=(af aD.out 2).trans rfl;have awa:Nq.cell? ⟨bz,3,none⟩=some (.int .i64 bL):=(af aD.out 3).trans rfl;have awb:Nq.cell? ⟨bz,4,none⟩=some (.int .i64 bQ):=(af aD.out 4).trans rfl;have awc:Nq.cell? ⟨bz,5,none⟩=some (.bool b9):=(af aD.out 5).trans rfl;have awd:Nq.cell? ⟨bz,6,none⟩=some (.slice dA bT.length dw):=(af aD.out 6).trans rfl;have awe:Nq.cell? ⟨bz,7,none⟩=some (.string gX):=(af aD.out 7).trans rfl;have awf:Nq.cell? ⟨bz,8,none⟩=some (.string cg):=(af aD.out 8).trans rfl;have awg:Nq.cell? ⟨bz,9,none⟩=some (.bool gY):=(af aD.out 9).trans rfl;have alI:Nq.cell? ⟨bz,10,none⟩=some (.slice iV eI.length iW):=(af aD.out 10).trans rfl;have alJ:Nq.cell? ⟨bz,11,none⟩=some (.slice iX eJ.length iY):=(af aD.out 11).trans rfl;have alK:Nq.cell? ⟨bz,12,none⟩=some (.int .i64 fI):=(af aD.out 12).trans rfl;have aap:=aa aD.out 0;have aaq:=aa aD.out 1;have aar:=aa aD.out 2;have awh:=aa aD.out 3;have awi:=aa aD.out 4;have awj:=aa aD.out 5;have awk:=aa aD.out 6;have awl:=aa aD.out 7;have awm:=aa aD.out 8;have awn:=aa aD.out 9;have alL:=aa aD.out 10;have alM:=aa aD.out 11;have alN:=aa aD.out 12)|(go_at_call 63;(with_reducible refine (dK.calls bQ b9 _ _ bT gX cg gY _ _ eI _ _ eJ fI true _ ?bk ?bI ?cO ?ey ?gz ?gA A22.out).mono ?_);(case bk=>repeat (exact (Kd.bU mQ.out eB)));(case bI=>exact nW.out);(case cO=>repeat (exact (Kd.bU vR.out eB)));(case ey=>exact vS.out);(case gz=>repeat (exact (Kd.bU vT.out eB)));(case gA=>exact vU.out);rintro e w30 ⟨rfl,hb⟩;replace jD:=ah.mk (Kd.bq C8 hb);replace aD:=ah.mk (az mR hb);replace HB:=ah.mk (av eB hb);(try clear hb)))
      go_ret
      exact ⟨by rfl,aI⟩
     ·replace c23:=Bool.eq_false_iff.mpr c23
      subst c23
      rw [if_neg (show ¬ (false=true) by decide)] at H
      obtain ⟨t227,A31,H⟩:=bd_ H
      obtain rfl:=Option.some.inj H
      go_enter Tryz.func58,Tryz.ntmps58
      go_wp2_with (first|((with_reducible refine bw (N:=1) rfl ?_);refine bA ?hg (N:=1) ?hd (cs:=#[.int .u8 bu,.int .i64 bX,.int .i64 cK,.int .i64 bL,.int .i64 bQ,.bool b9,.slice dA bT.length dw,.string gX,.string cg,.bool gY,.slice iV eI.length iW,.slice iX eJ.length iY,.int .i64 fI]) (t:=46) ?hr ?_;(case hd=>rfl);(case hg=>rfl);(case hr=>(go_simp;done));intro bz hg yh bH hb;have aD:=ah.mk (bH);have Fk:=ah.mk ((bG:w.heap.size≤bz));have Fl:=ah.mk ((bG:w.heap.size≤bz));replace HB:=ah.mk (av aI hb);clear hb bH hg;have RS:yh.cell? ⟨bz,0,none⟩=some (.int .u8 bu):=(af aD.out 0).trans rfl;have RT:yh.cell? ⟨bz,1,none⟩=some (.int .i64 bX):=(af aD.out 1).trans rfl;have RU:yh.cell? ⟨bz,2,none⟩=some (.int .i64 cK):=(af aD.out 2).trans rfl;have RV:yh.cell? ⟨bz,3,none⟩=some (.int .i64 bL):=(af aD.out 3).trans rfl;have RX:yh.cell? ⟨bz,4,none⟩=some (.int .i64 bQ):=(af aD.out 4).trans rfl;have RY:yh.cell? ⟨bz,5,none⟩=some (.bool b9):=(af aD.out 5).trans rfl;have RZ:yh.cell? ⟨bz,6,none⟩=some (.slice dA bT.length dw):=(af aD.out 6).trans rfl;have R3:yh.cell? ⟨bz,7,none⟩=some (.string gX):=(af aD.out 7).trans rfl;have R4:yh.cell? ⟨bz,8,none⟩=some (.string cg):=(af aD.out 8).trans rfl;have awo:yh.cell? ⟨bz,9,none⟩=some (.bool gY):=(af aD.out 9).trans rfl;have alO:yh.cell? ⟨bz,10,none⟩=some (.slice iV eI.length iW):=(af aD.out 10).trans rfl;have alP:yh.cell? ⟨bz,11,none⟩=some (.slice iX eJ.length iY):=(af aD.out 11).trans rfl;have alQ:yh.cell? ⟨bz,12,none⟩=some (.int .i64 fI):=(af aD.out 12).trans rfl;have R5:=aa aD.out 0;have R6:=aa aD.out 1;have R7:=aa aD.out 2;have R8:=aa aD.out 3;have R9:=aa aD.out 4;have Sa:=aa aD.out 5;have Sb:=aa aD.out 6;have Sc:=aa aD.out 7;have Sd:=aa aD.out 8;have awp:=aa aD.out 9;have alR:=aa aD.out 10;have alS:=aa aD.out 11;have alT:=aa aD.out 12)|((with_reducible refine bw (N:=9) rfl ?_);refine Kd.oa (Kd.int .i64) _ 3 ?hg (N:=9) ?hd (xs:=([bX,cK,bL]:List Int)) (inner:=[.int .i64 bX,.int .i64 cK,.int .i64 bL]) (ok:=fun _ =>True) (qK:=fun _ =>True) ?hr ?hp (fun _ hk=>hk) trivial (Below.refl _ _) (Nat.le_refl _) dz ?_;(case hd=>rfl);(case hg=>rfl);(case hr=>(go_simp;done));(case hp=>exact (eo.one (show Kd.M (Kd.int .i64) _ _ _ bX [.int .i64 bX] from rfl) (eo.one (show Kd.M (Kd.int .i64) _ _ _ cK [.int .i64 cK] from rfl) (eo.one (show Kd.M (Kd.int .i64) _ _ _ bL [.int .i64 bL] from rfl) (eo.none _ _)))));intro v222 Ei Om hb sP iC;clear sP iC;(rw [← CA.out] at Om);have jD:=ah.mk (Kd.dY Om (bV aI));replace aD:=ah.mk (az mR hb);replace HB:=ah.mk (av aI hb);clear hb Om;obtain ⟨JN,JO,XJ⟩:=Kd.dF jD.out;subst XJ)|((with_reducible refine bE (f:=102) rfl ?_);refine dg (some 10) rfl rfl Tryz.func102 au rfl #[.slice JN xz.length JO] rfl dM ?_;(with_reducible refine (dm.calls k _ _ xz true _ ?bk ?bI A2.out).mono ?_);(case bk=>repeat (exact (Kd.bW jD.out).2.2));(case bI=>exact (Kd.bW jD.out).2.1);rintro e w' ⟨rfl,⟨nd,rfl⟩⟩;refine ⟨_,rfl,?_⟩;have Js:Ei.cell? ⟨bz,0,none⟩=some (.int .u8 bu):=(af aD.out 0).trans rfl;have Jt:Ei.cell? ⟨bz,1,none⟩=some (.int .i64 bX):=(af aD.out 1).trans rfl;have Ju:Ei.cell? ⟨bz,2,none⟩=some (.int .i64 cK):=(af aD.out 2).trans rfl;have QO:Ei.cell? ⟨bz,3,none⟩=some (.int .i64 bL):=(af aD.out 3).trans rfl;have QS:Ei.cell? ⟨bz,4,none⟩=some (.int .i64 bQ):=(af aD.out 4).trans rfl;have QT:Ei.cell? ⟨bz,5,none⟩=some (.bool b9):=(af aD.out 5).trans rfl;have QU:Ei.cell? ⟨bz,6,none⟩=some (.slice dA bT.length dw):=(af aD.out 6).trans rfl;have QV:Ei.cell? ⟨bz,7,none⟩=some (.string gX):=(af aD.out 7).trans rfl;have QX:Ei.cell? ⟨bz,8,none⟩=some (.string cg):=(af aD.out 8).trans rfl;have awq:Ei.cell? ⟨bz,9,none⟩=some (.bool gY):=(af aD.out 9).trans rfl;have alU:Ei.cell? ⟨bz,10,none⟩=some (.slice iV eI.length iW):=(af aD.out 10).trans rfl;have alV:Ei.cell? ⟨bz,11,none⟩=some (.slice iX eJ.length iY):=(af aD.out 11).trans rfl;have alW:Ei.cell? ⟨bz,12,none⟩=some (.int .i64 fI):=(af aD.out 12).trans rfl;have Jv:=aa aD.out 0;have Jw:=aa aD.out 1;have Jx:=aa aD.out 2;have QY:=aa aD.out 3;have QZ:=aa aD.out 4;have Q0:=aa aD.out 5;have Q3:=aa aD.out 6;have Q4:=aa aD.out 7;have Q5:=aa aD.out 8;have awr:=aa aD.out 9;have alX:=aa aD.out 10;have alY:=aa aD.out 11;have alZ:=aa aD.out 12)|(go_at_call 63;(with_reducible refine (dK.calls bQ b9 _ _ bT gX cg gY _ _ eI _ _ eJ fI false _ ?bk ?bI ?cO ?ey ?gz ?gA A22.out).mono ?_);(case bk=>repeat (exact (Kd.bU mQ.out eB)));(case bI=>exact nW.out);(case cO=>repeat (exact (Kd.bU vR.out eB)));(case ey=>exact vS.out);(case gz=>repeat (exact (Kd.bU vT.out eB)));(case gA=>exact vU.out);rintro e uf ⟨rfl,hb⟩;replace jD:=ah.mk (Kd.bq C8 hb);replace aD:=ah.mk (az mR hb);replace HB:=ah.mk (av eB hb);(try clear hb);have Rf:uf.cell? ⟨bz,0,none⟩=some (.int .u8 bu):=(af aD.out 0).trans rfl;have Rg:uf.cell? ⟨bz,1,none⟩=some (.int .i64 bX):=(af aD.out 1).trans rfl;have Rh:uf.cell? ⟨bz,2,none⟩=some (.int .i64 cK):=(af aD.out 2).trans rfl;have aa4:uf.cell? ⟨bz,3,none⟩=some (.int .i64 bL):=(af aD.out 3).trans rfl;have aa5:uf.cell? ⟨bz,4,none⟩=some (.int .i64 bQ):=(af aD.out 4).trans rfl;have aa6:uf.cell? ⟨bz,5,none⟩=some (.bool b9):=(af aD.out 5).trans rfl;have aa7:uf.cell? ⟨bz,6,none⟩=some (.slice dA bT.length dw):=(af aD.out 6).trans rfl;have aa8:uf.cell? ⟨bz,7,none⟩=some (.string gX):=(af aD.out 7).trans rfl;have aa9:uf.cell? ⟨bz,8,none⟩=some (.string cg):=(af aD.out 8).trans rfl;have aws:uf.cell? ⟨bz,9,none⟩=some (.bool gY):=(af aD.out 9).trans rfl;have al0:uf.cell? ⟨bz,10,none⟩=some (.slice iV eI.length iW):=(af aD.out 10).trans rfl;have al1:uf.cell? ⟨bz,11,none⟩=some (.slice iX eJ.length iY):=(af aD.out 11).trans rfl;have al2:uf.cell? ⟨bz,12,none⟩=some (.int .i64 fI):=(af aD.out 12).trans rfl;have Ri:=aa aD.out 0;have Rj:=aa aD.out 1;have Rk:=aa aD.out 2;have aba:=aa aD.out 3;have abb:=aa aD.out 4;have abc:=aa aD.out 5;have abd:=aa aD.out 6;have abe:=aa aD.out 7;have abf:=aa aD.out 8;have awt:=aa aD.out 9;have al3:=aa aD.out 10;have al4:=aa aD.out 11;have al5:=aa aD.out 12)|(go_at_call 71;(with_reducible refine (ig.calls k bQ b9 _ _ bT gX cg gY _ _ eI _ _ eJ fI t227 _ ?bk ?bI ?cO ?ey ?gz ?gA ?ko A31.out).mono ?_);(case bk=>repeat (exact (Kd.bU mQ.out HB.out)));(case bI=>exact nW.out);(case cO=>repeat (exact (Kd.bU vR.out HB.out)));(case ey=>exact vS.out);(case gz=>repeat (exact (Kd.bU vT.out HB.out)));(case gA=>exact vU.out);(case ko=>exact bB.below HG.out aI);rintro e Gi ⟨rfl,hb⟩;replace jD:=ah.mk (Kd.bq (by exact jD.out) hb);replace aD:=ah.mk (az mR hb);replace HB:=ah.mk (av aI hb);(try clear hb)))
      go_ret
      exact ⟨by rfl,aI⟩
    ·rw [if_neg c21] at H
     have ae2:=beq_eq_false_iff_ne.mpr c21
     have ae3:=bne_iff_ne.mpr c21
     obtain rfl:=Option.some.inj H
     go_enter Tryz.func58,Tryz.ntmps58
     go_wp2_with (first|((with_reducible refine bw (N:=1) rfl ?_);refine bA ?hg (N:=1) ?hd (cs:=#[.int .u8 bu,.int .i64 bX,.int .i64 cK,.int .i64 bL,.int .i64 bQ,.bool b9,.slice dA bT.length dw,.string gX,.string cg,.bool gY,.slice iV eI.length iW,.slice iX eJ.length iY,.int .i64 fI]) (t:=46) ?hr ?_;(case hd=>rfl);(case hg=>rfl);(case hr=>(go_simp;done));intro bz hg Fe bH hb;have aD:=ah.mk (bH);have Fk:=ah.mk ((bG:w.heap.size≤bz));have Fl:=ah.mk ((bG:w.heap.size≤bz));replace HB:=ah.mk (av aI hb);clear hb bH hg;have abg:Fe.cell? ⟨bz,0,none⟩=some (.int .u8 bu):=(af aD.out 0).trans rfl;have abh:Fe.cell? ⟨bz,1,none⟩=some (.int .i64 bX):=(af aD.out 1).trans rfl;have abj:Fe.cell? ⟨bz,2,none⟩=some (.int .i64 cK):=(af aD.out 2).trans rfl;have abk:Fe.cell? ⟨bz,3,none⟩=some (.int .i64 bL):=(af aD.out 3).trans rfl;have abl:Fe.cell? ⟨bz,4,none⟩=some (.int .i64 bQ):=(af aD.out 4).trans rfl;have abm:Fe.cell? ⟨bz,5,none⟩=some (.bool b9):=(af aD.out 5).trans rfl;have abn:Fe.cell? ⟨bz,6,none⟩=some (.slice dA bT.length dw):=(af aD.out 6).trans rfl;have abo:Fe.cell? ⟨bz,7,none⟩=some (.string gX):=(af aD.out 7).trans rfl;have abp:Fe.cell? ⟨bz,8,none⟩=some (.string cg):=(af aD.out 8).trans rfl;have awu:Fe.cell? ⟨bz,9,none⟩=some (.bool gY):=(af aD.out 9).trans rfl;have al6:Fe.cell? ⟨bz,10,none⟩=some (.slice iV eI.length iW):=(af aD.out 10).trans rfl;have al7:Fe.cell? ⟨bz,11,none⟩=some (.slice iX eJ.length iY):=(af aD.out 11).trans rfl;have al8:Fe.cell? ⟨bz,12,none⟩=some (.int .i64 fI):=(af aD.out 12).trans rfl;have abq:=aa aD.out 0;have abr:=aa aD.out 1;have abt:=aa aD.out 2;have abu:=aa aD.out 3;have abv:=aa aD.out 4;have abw:=aa aD.out 5;have abx:=aa aD.out 6;have aby:=aa aD.out 7;have abz:=aa aD.out 8;have awv:=aa aD.out 9;have al9:=aa aD.out 10;have ama:=aa aD.out 11;have amb:=aa aD.out 12)|((with_reducible refine bw (N:=9) rfl ?_);refine Kd.oa (Kd.int .i64) _ 3 ?hg (N:=9) ?hd (xs:=([bX,cK,bL]:List Int)) (inner:=[.int .i64 bX,.int .i64 cK,.int .i64 bL]) (ok:=fun _ =>True) (qK:=fun _ =>True) ?hr ?hp (fun _ hk=>hk) trivial (Below.refl _ _) (Nat.le_refl _) dz ?_;(case hd=>rfl);(case hg=>rfl);(case hr=>(go_simp;done));(case hp=>exact (eo.one (show Kd.M (Kd.int .i64) _ _ _ bX [.int .i64 bX] from rfl) (eo.one (show Kd.M (Kd.int .i64) _ _ _ cK [.int .i64 cK] from rfl) (eo.one (show Kd.M (Kd.int .i64) _ _ _ bL [.int .i64 bL] from rfl) (eo.none _ _)))));intro v222 sQ Oo hb sP iC;clear sP iC;(rw [← CA.out] at Oo);have jD:=ah.mk (Kd.dY Oo (bV aI));replace aD:=ah.mk (az mR hb);replace HB:=ah.mk (av aI hb);clear hb Oo;obtain ⟨ajE,ajF,agN⟩:=Kd.dF jD.out;subst agN)|((with_reducible refine bE (f:=102) rfl ?_);refine dg (some 10) rfl rfl Tryz.func102 au rfl #[.slice ajE xz.length ajF] rfl dM ?_;(with_reducible refine (dm.calls k _ _ xz true _ ?bk ?bI A2.out).mono ?_);(case bk=>repeat (exact (Kd.bW jD.out).2.2));(case bI=>exact (Kd.bW jD.out).2.1);rintro e w' ⟨rfl,⟨nd,rfl⟩⟩;refine ⟨_,rfl,?_⟩;have Sg:sQ.cell? ⟨bz,0,none⟩=some (.int .u8 bu):=(af aD.out 0).trans rfl;have Sh:sQ.cell? ⟨bz,1,none⟩=some (.int .i64 bX):=(af aD.out 1).trans rfl;have Si:sQ.cell? ⟨bz,2,none⟩=some (.int .i64 cK):=(af aD.out 2).trans rfl;have Sj:sQ.cell? ⟨bz,3,none⟩=some (.int .i64 bL):=(af aD.out 3).trans rfl;have Sk:sQ.cell? ⟨bz,4,none⟩=some (.int .i64 bQ):=(af aD.out 4).trans rfl;have Sl:sQ.cell? ⟨bz,5,none⟩=some (.bool b9):=(af aD.out 5).trans rfl;have Sm:sQ.cell? ⟨bz,6,none⟩=some (.slice dA bT.length dw):=(af aD.out 6).trans rfl;have Sn:sQ.cell? ⟨bz,7,none⟩=some (.string gX):=(af aD.out 7).trans rfl;have Sq:sQ.cell? ⟨bz,8,none⟩=some (.string cg):=(af aD.out 8).trans rfl;have aww:sQ.cell? ⟨bz,9,none⟩=some (.bool gY):=(af aD.out 9).trans rfl;have amc:sQ.cell? ⟨bz,10,none⟩=some (.slice iV eI.length iW):=(af aD.out 10).trans rfl;have amd:sQ.cell? ⟨bz,11,none⟩=some (.slice iX eJ.length iY):=(af aD.out 11).trans rfl;have ame:sQ.cell? ⟨bz,12,none⟩=some (.int .i64 fI):=(af aD.out 12).trans rfl;have Sr:=aa aD.out 0;have Ss:=aa aD.out 1;have Su:=aa aD.out 2;have Sv:=aa aD.out 3;have Sw:=aa aD.out 4;have Sy:=aa aD.out 5;have Sz:=aa aD.out 6;have SA:=aa aD.out 7;have SB:=aa aD.out 8;have awx:=aa aD.out 9;have amf:=aa aD.out 10;have amg:=aa aD.out 11;have amh:=aa aD.out 12))
     go_ret
     exact ⟨by rfl,eB⟩
   ·rw [if_neg c20] at H
    have Rp:=beq_eq_false_iff_ne.mpr c20
    have Rq:=bne_iff_ne.mpr c20
    by_cases c47:bu=2
    ·rw [if_pos c47] at H
     have ami:=beq_iff_eq.mpr c47
     have amj:=bne_eq_false_iff_eq.mpr c47
     clear c47
     obtain ⟨t228,A48,H⟩:=bd_ H
     obtain rfl:=Option.some.inj H
     go_enter Tryz.func58,Tryz.ntmps58
     go_wp2_with (first|((with_reducible refine bw (N:=1) rfl ?_);refine bA ?hg (N:=1) ?hd (cs:=#[.int .u8 bu,.int .i64 bX,.int .i64 cK,.int .i64 bL,.int .i64 bQ,.bool b9,.slice dA bT.length dw,.string gX,.string cg,.bool gY,.slice iV eI.length iW,.slice iX eJ.length iY,.int .i64 fI]) (t:=46) ?hr ?_;(case hd=>rfl);(case hg=>rfl);(case hr=>(go_simp;done));intro bz hg Ff bH hb;have aD:=ah.mk (bH);have Fk:=ah.mk ((bG:w.heap.size≤bz));have Fl:=ah.mk ((bG:w.heap.size≤bz));replace HB:=ah.mk (av aI hb);clear hb bH hg;have SC:Ff.cell? ⟨bz,0,none⟩=some (.int .u8 bu):=(af aD.out 0).trans rfl;have SD:Ff.cell? ⟨bz,1,none⟩=some (.int .i64 bX):=(af aD.out 1).trans rfl;have SE:Ff.cell? ⟨bz,2,none⟩=some (.int .i64 cK):=(af aD.out 2).trans rfl;have SF:Ff.cell? ⟨bz,3,none⟩=some (.int .i64 bL):=(af aD.out 3).trans rfl;have SG:Ff.cell? ⟨bz,4,none⟩=some (.int .i64 bQ):=(af aD.out 4).trans rfl;have SH:Ff.cell? ⟨bz,5,none⟩=some (.bool b9):=(af aD.out 5).trans rfl;have abE:Ff.cell? ⟨bz,6,none⟩=some (.slice dA bT.length dw):=(af aD.out 6).trans rfl;have abF:Ff.cell? ⟨bz,7,none⟩=some (.string gX):=(af aD.out 7).trans rfl;have abG:Ff.cell? ⟨bz,8,none⟩=some (.string cg):=(af aD.out 8).trans rfl;have awy:Ff.cell? ⟨bz,9,none⟩=some (.bool gY):=(af aD.out 9).trans rfl;have amk:Ff.cell? ⟨bz,10,none⟩=some (.slice iV eI.length iW):=(af aD.out 10).trans rfl;have aml:Ff.cell? ⟨bz,11,none⟩=some (.slice iX eJ.length iY):=(af aD.out 11).trans rfl;have amm:Ff.cell? ⟨bz,12,none⟩=some (.int .i64 fI):=(af aD.out 12).trans rfl;have SI:=aa aD.out 0;have SJ:=aa aD.out 1;have SK:=aa aD.out 2;have SL:=aa aD.out 3;have SM:=aa aD.out 4;have SN:=aa aD.out 5;have abH:=aa aD.out 6;have abI:=aa aD.out 7;have abJ:=aa aD.out 8;have awz:=aa aD.out 9;have amn:=aa aD.out 10;have amo:=aa aD.out 11;have amq:=aa aD.out 12)|((with_reducible refine bw (N:=9) rfl ?_);refine Kd.oa (Kd.int .i64) _ 3 ?hg (N:=9) ?hd (xs:=([bX,cK,bL]:List Int)) (inner:=[.int .i64 bX,.int .i64 cK,.int .i64 bL]) (ok:=fun _ =>True) (qK:=fun _ =>True) ?hr ?hp (fun _ hk=>hk) trivial (Below.refl _ _) (Nat.le_refl _) dz ?_;(case hd=>rfl);(case hg=>rfl);(case hr=>(go_simp;done));(case hp=>exact (eo.one (show Kd.M (Kd.int .i64) _ _ _ bX [.int .i64 bX] from rfl) (eo.one (show Kd.M (Kd.int .i64) _ _ _ cK [.int .i64 cK] from rfl) (eo.one (show Kd.M (Kd.int .i64) _ _ _ bL [.int .i64 bL] from rfl) (eo.none _ _)))));intro v222 xy Oq hb sP iC;clear sP iC;(rw [← CA.out] at Oq);have jD:=ah.mk (Kd.dY Oq (bV aI));replace aD:=ah.mk (az mR hb);replace HB:=ah.mk (av aI hb);clear hb Oq;obtain ⟨ajG,ajH,agO⟩:=Kd.dF jD.out;subst agO)|((with_reducible refine bE (f:=102) rfl ?_);refine dg (some 10) rfl rfl Tryz.func102 au rfl #[.slice ajG xz.length ajH] rfl dM ?_;(with_reducible refine (dm.calls k _ _ xz true _ ?bk ?bI A2.out).mono ?_);(case bk=>repeat (exact (Kd.bW jD.out).2.2));(case bI=>exact (Kd.bW jD.out).2.1);rintro e w' ⟨rfl,⟨nd,rfl⟩⟩;refine ⟨_,rfl,?_⟩;have JP:xy.cell? ⟨bz,0,none⟩=some (.int .u8 bu):=(af aD.out 0).trans rfl;have JQ:xy.cell? ⟨bz,1,none⟩=some (.int .i64 bX):=(af aD.out 1).trans rfl;have SP:xy.cell? ⟨bz,2,none⟩=some (.int .i64 cK):=(af aD.out 2).trans rfl;have SQ:xy.cell? ⟨bz,3,none⟩=some (.int .i64 bL):=(af aD.out 3).trans rfl;have SR:xy.cell? ⟨bz,4,none⟩=some (.int .i64 bQ):=(af aD.out 4).trans rfl;have SS:xy.cell? ⟨bz,5,none⟩=some (.bool b9):=(af aD.out 5).trans rfl;have abK:xy.cell? ⟨bz,6,none⟩=some (.slice dA bT.length dw):=(af aD.out 6).trans rfl;have abL:xy.cell? ⟨bz,7,none⟩=some (.string gX):=(af aD.out 7).trans rfl;have abM:xy.cell? ⟨bz,8,none⟩=some (.string cg):=(af aD.out 8).trans rfl;have awA:xy.cell? ⟨bz,9,none⟩=some (.bool gY):=(af aD.out 9).trans rfl;have amr:xy.cell? ⟨bz,10,none⟩=some (.slice iV eI.length iW):=(af aD.out 10).trans rfl;have ams:xy.cell? ⟨bz,11,none⟩=some (.slice iX eJ.length iY):=(af aD.out 11).trans rfl;have amt:xy.cell? ⟨bz,12,none⟩=some (.int .i64 fI):=(af aD.out 12).trans rfl;have JR:=aa aD.out 0;have JS:=aa aD.out 1;have SU:=aa aD.out 2;have SV:=aa aD.out 3;have SX:=aa aD.out 4;have SY:=aa aD.out 5;have abN:=aa aD.out 6;have abO:=aa aD.out 7;have abP:=aa aD.out 8;have awB:=aa aD.out 9;have amu:=aa aD.out 10;have amv:=aa aD.out 11;have amw:=aa aD.out 12)|((with_reducible refine bE (f:=63) rfl ?_);refine dg (some 52) rfl rfl Tryz.func63 au rfl #[.agg #[.int .i64 bQ,.bool b9,.slice dA bT.length dw,.string gX,.string cg,.bool gY,.slice iV eI.length iW,.slice iX eJ.length iY,.int .i64 fI]] rfl dM ?_;(with_reducible refine (dK.calls bQ b9 _ _ bT gX cg gY _ _ eI _ _ eJ fI t228 _ ?bk ?bI ?cO ?ey ?gz ?gA A48.out).mono ?_);(case bk=>repeat (exact (Kd.bU mQ.out eB)));(case bI=>exact nW.out);(case cO=>repeat (exact (Kd.bU vR.out eB)));(case ey=>exact vS.out);(case gz=>repeat (exact (Kd.bU vT.out eB)));(case gA=>exact vU.out);rintro e Y3 ⟨rfl,hb⟩;refine ⟨_,rfl,?_⟩;replace jD:=ah.mk (Kd.bq C8 hb);replace aD:=ah.mk (az mR hb);replace HB:=ah.mk (av eB hb);(try clear hb)))
     go_ret
     exact ⟨by rfl,aI⟩
    ·rw [if_neg c47] at H
     have ami:=beq_eq_false_iff_ne.mpr c47
     have amj:=bne_iff_ne.mpr c47
     have aha:=ah.mk H
     clear H
     go_enter Tryz.func58,Tryz.ntmps58
     go_upto_if 53 with (first|((with_reducible refine bw (N:=1) rfl ?_);refine bA ?hg (N:=1) ?hd (cs:=#[.int .u8 bu,.int .i64 bX,.int .i64 cK,.int .i64 bL,.int .i64 bQ,.bool b9,.slice dA bT.length dw,.string gX,.string cg,.bool gY,.slice iV eI.length iW,.slice iX eJ.length iY,.int .i64 fI]) (t:=46) ?hr ?_;(case hd=>rfl);(case hg=>rfl);(case hr=>(go_simp;done));intro bz hg Tt bH hb;have aD:=ah.mk (bH);have Fk:=ah.mk ((bG:w.heap.size≤bz));have Fl:=ah.mk ((bG:w.heap.size≤bz));replace HB:=ah.mk (av aI hb);clear hb bH hg;have acj:Tt.cell? ⟨bz,0,none⟩=some (.int .u8 bu):=(af aD.out 0).trans rfl;have ack:Tt.cell? ⟨bz,1,none⟩=some (.int .i64 bX):=(af aD.out 1).trans rfl;have acm:Tt.cell? ⟨bz,2,none⟩=some (.int .i64 cK):=(af aD.out 2).trans rfl;have acn:Tt.cell? ⟨bz,3,none⟩=some (.int .i64 bL):=(af aD.out 3).trans rfl;have aco:Tt.cell? ⟨bz,4,none⟩=some (.int .i64 bQ):=(af aD.out 4).trans rfl;have acp:Tt.cell? ⟨bz,5,none⟩=some (.bool b9):=(af aD.out 5).trans rfl;have acq:Tt.cell? ⟨bz,6,none⟩=some (.slice dA bT.length dw):=(af aD.out 6).trans rfl;have acr:Tt.cell? ⟨bz,7,none⟩=some (.string gX):=(af aD.out 7).trans rfl;have acs:Tt.cell? ⟨bz,8,none⟩=some (.string cg):=(af aD.out 8).trans rfl;have awC:Tt.cell? ⟨bz,9,none⟩=some (.bool gY):=(af aD.out 9).trans rfl;have amx:Tt.cell? ⟨bz,10,none⟩=some (.slice iV eI.length iW):=(af aD.out 10).trans rfl;have amy:Tt.cell? ⟨bz,11,none⟩=some (.slice iX eJ.length iY):=(af aD.out 11).trans rfl;have amz:Tt.cell? ⟨bz,12,none⟩=some (.int .i64 fI):=(af aD.out 12).trans rfl;have acu:=aa aD.out 0;have acv:=aa aD.out 1;have acw:=aa aD.out 2;have acy:=aa aD.out 3;have acz:=aa aD.out 4;have acA:=aa aD.out 5;have acB:=aa aD.out 6;have acC:=aa aD.out 7;have acD:=aa aD.out 8;have awD:=aa aD.out 9;have amA:=aa aD.out 10;have amB:=aa aD.out 11;have amC:=aa aD.out 12)|((with_reducible refine bw (N:=9) rfl ?_);refine Kd.oa (Kd.int .i64) _ 3 ?hg (N:=9) ?hd (xs:=([bX,cK,bL]:List Int)) (inner:=[.int .i64 bX,.int .i64 cK,.int .i64 bL]) (ok:=fun _ =>True) (qK:=fun _ =>True) ?hr ?hp (fun _ hk=>hk) trivial (Below.refl _ _) (Nat.le_refl _) dz ?_;(case hd=>rfl);(case hg=>rfl);(case hr=>(go_simp;done));(case hp=>exact (eo.one (show Kd.M (Kd.int .i64) _ _ _ bX [.int .i64 bX] from rfl) (eo.one (show Kd.M (Kd.int .i64) _ _ _ cK [.int .i64 cK] from rfl) (eo.one (show Kd.M (Kd.int .i64) _ _ _ bL [.int .i64 bL] from rfl) (eo.none _ _)))));intro v222 Tu ahb hb sP iC;clear sP iC;(rw [← CA.out] at ahb);have jD:=ah.mk (Kd.dY ahb (bV aI));replace aD:=ah.mk (az mR hb);replace HB:=ah.mk (av aI hb);clear hb ahb;obtain ⟨aDm,aDn,aDo⟩:=Kd.dF jD.out;subst aDo)|((with_reducible refine bE (f:=102) rfl ?_);refine dg (some 10) rfl rfl Tryz.func102 au rfl #[.slice aDm xz.length aDn] rfl dM ?_;(with_reducible refine (dm.calls k _ _ xz true _ ?bk ?bI A2.out).mono ?_);(case bk=>repeat (exact (Kd.bW jD.out).2.2));(case bI=>exact (Kd.bW jD.out).2.1);rintro e w' ⟨rfl,⟨nd,rfl⟩⟩;refine ⟨_,rfl,?_⟩;have acE:Tu.cell? ⟨bz,0,none⟩=some (.int .u8 bu):=(af aD.out 0).trans rfl;have acF:Tu.cell? ⟨bz,1,none⟩=some (.int .i64 bX):=(af aD.out 1).trans rfl;have awE:Tu.cell? ⟨bz,2,none⟩=some (.int .i64 cK):=(af aD.out 2).trans rfl;have awF:Tu.cell? ⟨bz,3,none⟩=some (.int .i64 bL):=(af aD.out 3).trans rfl;have awG:Tu.cell? ⟨bz,4,none⟩=some (.int .i64 bQ):=(af aD.out 4).trans rfl;have awH:Tu.cell? ⟨bz,5,none⟩=some (.bool b9):=(af aD.out 5).trans rfl;have awI:Tu.cell? ⟨bz,6,none⟩=some (.slice dA bT.length dw):=(af aD.out 6).trans rfl;have awJ:Tu.cell? ⟨bz,7,none⟩=some (.string gX):=(af aD.out 7).trans rfl;have awK:Tu.cell? ⟨bz,8,none⟩=some (.string cg):=(af aD.out 8).trans rfl;have awL:Tu.cell? ⟨bz,9,none⟩=some (.bool gY):=(af aD.out 9).trans rfl;have amD:Tu.cell? ⟨bz,10,none⟩=some (.slice iV eI.length iW):=(af aD.out 10).trans rfl;have amE:Tu.cell? ⟨bz,11,none⟩=some (.slice iX eJ.length iY):=(af aD.out 11).trans rfl;have amF:Tu.cell? ⟨bz,12,none⟩=some (.int .i64 fI):=(af aD.out 12).trans rfl;have acG:=aa aD.out 0;have acH:=aa aD.out 1;have awM:=aa aD.out 2;have awN:=aa aD.out 3;have awO:=aa aD.out 4;have awP:=aa aD.out 5;have awQ:=aa aD.out 6;have awR:=aa aD.out 7;have awS:=aa aD.out 8;have awT:=aa aD.out 9;have amG:=aa aD.out 10;have amH:=aa aD.out 11;have amI:=aa aD.out 12))
     go_cut [53] (fun v53 wc=>∃ (kq:Nat) (JZ:Bool),v53= .bool JZ∧ah (cW.j0 kq bu JZ bu bX cK bL bQ b9 bT gX cg gY eI eJ fI=some r)∧ah (kq≤k)∧ah (wc.heap[bz]? =some (.cells #[.int .u8 bu,.int .i64 bX,.int .i64 cK,.int .i64 bL,.int .i64 bQ,.bool b9,(.slice dA bT.length dw),.string gX,.string cg,.bool gY,(.slice iV eI.length iW),(.slice iX eJ.length iY),.int .i64 fI] 46 (0,0)))∧ah (Below w.heap.size w wc))
     case first=>
      have H:=aha.out
      clear aha
      by_cases VX:bu=3
      ·rw [if_pos VX] at H
       have XX:=beq_iff_eq.mpr VX
       have amJ:=bne_eq_false_iff_eq.mpr VX
       clear VX
       (rw [XX])
       have H':=ah.mk H
       clear H
       go_wp2
       go_meet
       case rel=>exact ⟨_,((bu == 3)),(by (simp [*];done)),H',⟨aA⟩,⟨P5⟩,⟨eB⟩⟩
      ·rw [if_neg VX] at H
       have XX:=beq_eq_false_iff_ne.mpr VX
       have amJ:=bne_iff_ne.mpr VX
       (rw [XX])
       have H':=ah.mk H
       clear H
       go_wp2
       go_meet
       case rel=>exact ⟨_,((bu == 4)),(by rfl),H',⟨aA⟩,⟨P5⟩,⟨eB⟩⟩
     case rest=>
      clear aha
      obtain ⟨kq,JZ,rfl,HA,aJU,aD,HB⟩:=hcut
      cases kq with
      |zero=>exact absurd HA.out (by simp [cW.j0])
      |succ aJV=>
       have H:=HA.out
       clear HA
       simp only [cW.j0] at H
       by_cases c64:JZ=true
       ·subst c64
        rw [if_pos rfl] at H
        by_cases c65:bL=0
        ·rw [if_pos c65] at H
         have amK:=beq_iff_eq.mpr c65
         have amL:=bne_eq_false_iff_eq.mpr c65
         clear c65
         obtain ⟨t229,A66,H⟩:=bd_ H
         obtain rfl:=Option.some.inj H
         have awV:wc.cell? ⟨bz,0,none⟩=some (.int .u8 bu):=(af aD.out 0).trans rfl
         have awW:wc.cell? ⟨bz,1,none⟩=some (.int .i64 bX):=(af aD.out 1).trans rfl
         have awX:wc.cell? ⟨bz,2,none⟩=some (.int .i64 cK):=(af aD.out 2).trans rfl
         have awY:wc.cell? ⟨bz,3,none⟩=some (.int .i64 bL):=(af aD.out 3).trans rfl
         have awZ:wc.cell? ⟨bz,4,none⟩=some (.int .i64 bQ):=(af aD.out 4).trans rfl
         have aw0:wc.cell? ⟨bz,5,none⟩=some (.bool b9):=(af aD.out 5).trans rfl
         have aw1:wc.cell? ⟨bz,6,none⟩=some (.slice dA bT.length dw):=(af aD.out 6).trans rfl
         have aw2:wc.cell? ⟨bz,7,none⟩=some (.string gX):=(af aD.out 7).trans rfl
         have aw3:wc.cell? ⟨bz,8,none⟩=some (.string cg):=(af aD.out 8).trans rfl
         have aw4:wc.cell? ⟨bz,9,none⟩=some (.bool gY):=(af aD.out 9).trans rfl
         have amM:wc.cell? ⟨bz,10,none⟩=some (.slice iV eI.length iW):=(af aD.out 10).trans rfl
         have amN:wc.cell? ⟨bz,11,none⟩=some (.slice iX eJ.length iY):=(af aD.out 11).trans rfl
         have amO:wc.cell? ⟨bz,12,none⟩=some (.int .i64 fI):=(af aD.out 12).trans rfl
         have aw5:=aa aD.out 0
         have aw6:=aa aD.out 1
         have aw7:=aa aD.out 2
         have aw8:=aa aD.out 3
         have aw9:=aa aD.out 4
         have axa:=aa aD.out 5
         have axb:=aa aD.out 6
         have axc:=aa aD.out 7
         have axd:=aa aD.out 8
         have axe:=aa aD.out 9
         have amP:=aa aD.out 10
         have amQ:=aa aD.out 11
         have amR:=aa aD.out 12
         go_wp2_with ((go_at_call 63;(with_reducible refine (dK.calls bQ b9 _ _ bT gX cg gY _ _ eI _ _ eJ fI t229 _ ?bk ?bI ?cO ?ey ?gz ?gA A66.out).mono ?_);(case bk=>repeat (exact (Kd.bU mQ.out HB.out)));(case bI=>exact nW.out);(case cO=>repeat (exact (Kd.bU vR.out HB.out)));(case ey=>exact vS.out);(case gz=>repeat (exact (Kd.bU vT.out HB.out)));(case gA=>exact vU.out);rintro e w68 ⟨rfl,hb⟩;replace aD:=ah.mk (az mR hb);replace HB:=ah.mk (av aI hb);(try clear hb)))
         go_ret
         exact ⟨by rfl,aI⟩
        ·rw [if_neg c65] at H
         have amK:=beq_eq_false_iff_ne.mpr c65
         have amL:=bne_iff_ne.mpr c65
         obtain rfl:=Option.some.inj H
         have axf:wc.cell? ⟨bz,0,none⟩=some (.int .u8 bu):=(af aD.out 0).trans rfl
         have axg:wc.cell? ⟨bz,1,none⟩=some (.int .i64 bX):=(af aD.out 1).trans rfl
         have axh:wc.cell? ⟨bz,2,none⟩=some (.int .i64 cK):=(af aD.out 2).trans rfl
         have axi:wc.cell? ⟨bz,3,none⟩=some (.int .i64 bL):=(af aD.out 3).trans rfl
         have axj:wc.cell? ⟨bz,4,none⟩=some (.int .i64 bQ):=(af aD.out 4).trans rfl
         have axk:wc.cell? ⟨bz,5,none⟩=some (.bool b9):=(af aD.out 5).trans rfl
         have axl:wc.cell? ⟨bz,6,none⟩=some (.slice dA bT.length dw):=(af aD.out 6).trans rfl
         have axm:wc.cell? ⟨bz,7,none⟩=some (.string gX):=(af aD.out 7).trans rfl
         have axn:wc.cell? ⟨bz,8,none⟩=some (.string cg):=(af aD.out 8).trans rfl
         have axo:wc.cell? ⟨bz,9,none⟩=some (.bool gY):=(af aD.out 9).trans rfl
         have amS:wc.cell? ⟨bz,10,none⟩=some (.slice iV eI.length iW):=(af aD.out 10).trans rfl
         have amT:wc.cell? ⟨bz,11,none⟩=some (.slice iX eJ.length iY):=(af aD.out 11).trans rfl
         have amU:wc.cell? ⟨bz,12,none⟩=some (.int .i64 fI):=(af aD.out 12).trans rfl
         have axp:=aa aD.out 0
         have axq:=aa aD.out 1
         have axr:=aa aD.out 2
         have axt:=aa aD.out 3
         have axu:=aa aD.out 4
         have axv:=aa aD.out 5
         have axw:=aa aD.out 6
         have axx:=aa aD.out 7
         have axy:=aa aD.out 8
         have axz:=aa aD.out 9
         have amV:=aa aD.out 10
         have amW:=aa aD.out 11
         have amX:=aa aD.out 12
         go_wp2
         go_ret
         exact ⟨by rfl,aI⟩
       ·replace c64:=Bool.eq_false_iff.mpr c64
        subst c64
        rw [if_neg (show ¬ (false=true) by decide)] at H
        by_cases c70:bu=6
        ·rw [if_pos c70] at H
         have amY:=beq_iff_eq.mpr c70
         have amZ:=bne_eq_false_iff_eq.mpr c70
         clear c70
         by_cases c71:(wrap64 (cK + bL))=0
         ·rw [if_pos c71] at H
          have am0:=beq_iff_eq.mpr c71
          have am1:=bne_eq_false_iff_eq.mpr c71
          clear c71
          obtain ⟨t230,A72,H⟩:=bd_ H
          obtain rfl:=Option.some.inj H
          have axA:wc.cell? ⟨bz,0,none⟩=some (.int .u8 bu):=(af aD.out 0).trans rfl
          have axB:wc.cell? ⟨bz,1,none⟩=some (.int .i64 bX):=(af aD.out 1).trans rfl
          have axC:wc.cell? ⟨bz,2,none⟩=some (.int .i64 cK):=(af aD.out 2).trans rfl
          have axD:wc.cell? ⟨bz,3,none⟩=some (.int .i64 bL):=(af aD.out 3).trans rfl
          have axE:wc.cell? ⟨bz,4,none⟩=some (.int .i64 bQ):=(af aD.out 4).trans rfl
          have axF:wc.cell? ⟨bz,5,none⟩=some (.bool b9):=(af aD.out 5).trans rfl
          have axG:wc.cell? ⟨bz,6,none⟩=some (.slice dA bT.length dw):=(af aD.out 6).trans rfl
          have axH:wc.cell? ⟨bz,7,none⟩=some (.string gX):=(af aD.out 7).trans rfl
          have axI:wc.cell? ⟨bz,8,none⟩=some (.string cg):=(af aD.out 8).trans rfl
          have axJ:wc.cell? ⟨bz,9,none⟩=some (.bool gY):=(af aD.out 9).trans rfl
          have am2:wc.cell? ⟨bz,10,none⟩=some (.slice iV eI.length iW):=(af aD.out 10).trans rfl
          have am3:wc.cell? ⟨bz,11,none⟩=some (.slice iX eJ.length iY):=(af aD.out 11).trans rfl
          have am4:wc.cell? ⟨bz,12,none⟩=some (.int .i64 fI):=(af aD.out 12).trans rfl
          have axK:=aa aD.out 0
          have axL:=aa aD.out 1
          have axM:=aa aD.out 2
          have axN:=aa aD.out 3
          have axO:=aa aD.out 4
          have axP:=aa aD.out 5
          have axQ:=aa aD.out 6
          have axR:=aa aD.out 7
          have axS:=aa aD.out 8
          have axT:=aa aD.out 9
          have am5:=aa aD.out 10
          have am6:=aa aD.out 11
          have am7:=aa aD.out 12
          go_wp2_with ((go_at_call 63;(with_reducible refine (dK.calls bQ b9 _ _ bT gX cg gY _ _ eI _ _ eJ fI t230 _ ?bk ?bI ?cO ?ey ?gz ?gA A72.out).mono ?_);(case bk=>repeat (exact (Kd.bU mQ.out HB.out)));(case bI=>exact nW.out);(case cO=>repeat (exact (Kd.bU vR.out HB.out)));(case ey=>exact vS.out);(case gz=>repeat (exact (Kd.bU vT.out HB.out)));(case gA=>exact vU.out);rintro e w74 ⟨rfl,hb⟩;replace aD:=ah.mk (az mR hb);replace HB:=ah.mk (av aI hb);(try clear hb)))
          go_ret
          exact ⟨by rfl,aI⟩
         ·rw [if_neg c71] at H
          have am0:=beq_eq_false_iff_ne.mpr c71
          have am1:=bne_iff_ne.mpr c71
          obtain rfl:=Option.some.inj H
          have axU:wc.cell? ⟨bz,0,none⟩=some (.int .u8 bu):=(af aD.out 0).trans rfl
          have axV:wc.cell? ⟨bz,1,none⟩=some (.int .i64 bX):=(af aD.out 1).trans rfl
          have axW:wc.cell? ⟨bz,2,none⟩=some (.int .i64 cK):=(af aD.out 2).trans rfl
          have axX:wc.cell? ⟨bz,3,none⟩=some (.int .i64 bL):=(af aD.out 3).trans rfl
          have axY:wc.cell? ⟨bz,4,none⟩=some (.int .i64 bQ):=(af aD.out 4).trans rfl
          have axZ:wc.cell? ⟨bz,5,none⟩=some (.bool b9):=(af aD.out 5).trans rfl
          have ax0:wc.cell? ⟨bz,6,none⟩=some (.slice dA bT.length dw):=(af aD.out 6).trans rfl
          have ax1:wc.cell? ⟨bz,7,none⟩=some (.string gX):=(af aD.out 7).trans rfl
          have ax2:wc.cell? ⟨bz,8,none⟩=some (.string cg):=(af aD.out 8).trans rfl
          have ax3:wc.cell? ⟨bz,9,none⟩=some (.bool gY):=(af aD.out 9).trans rfl
          have am8:wc.cell? ⟨bz,10,none⟩=some (.slice iV eI.length iW):=(af aD.out 10).trans rfl
          have am9:wc.cell? ⟨bz,11,none⟩=some (.slice iX eJ.length iY):=(af aD.out 11).trans rfl
          have ana:wc.cell? ⟨bz,12,none⟩=some (.int .i64 fI):=(af aD.out 12).trans rfl
          have ax4:=aa aD.out 0
          have ax5:=aa aD.out 1
          have ax6:=aa aD.out 2
          have ax7:=aa aD.out 3
          have ax8:=aa aD.out 4
          have ax9:=aa aD.out 5
          have aya:=aa aD.out 6
          have ayb:=aa aD.out 7
          have ayc:=aa aD.out 8
          have ayd:=aa aD.out 9
          have anb:=aa aD.out 10
          have anc:=aa aD.out 11
          have ane:=aa aD.out 12
          go_wp2
          go_ret
          exact ⟨by rfl,aI⟩
        ·rw [if_neg c70] at H
         have amY:=beq_eq_false_iff_ne.mpr c70
         have amZ:=bne_iff_ne.mpr c70
         obtain rfl:=Option.some.inj H
         go_wp2
         go_ret
         exact ⟨by rfl,aI⟩
 ·replace c3:=Bool.eq_false_iff.mpr c3
  subst c3
  rw [if_neg (show ¬ (false=true) by decide)] at H
  obtain rfl:=Option.some.inj H
  go_enter Tryz.func58,Tryz.ntmps58
  go_wp2_with (first|((with_reducible refine bw (N:=1) rfl ?_);refine bA ?hg (N:=1) ?hd (cs:=#[.int .u8 bu,.int .i64 bX,.int .i64 cK,.int .i64 bL,.int .i64 bQ,.bool b9,.slice dA bT.length dw,.string gX,.string cg,.bool gY,.slice iV eI.length iW,.slice iX eJ.length iY,.int .i64 fI]) (t:=46) ?hr ?_;(case hd=>rfl);(case hg=>rfl);(case hr=>(go_simp;done));intro bz hg U6 bH hb;have aD:=ah.mk (bH);have Fk:=ah.mk ((bG:w.heap.size≤bz));have Fl:=ah.mk ((bG:w.heap.size≤bz));replace HB:=ah.mk (av aI hb);clear hb bH hg;have aye:U6.cell? ⟨bz,0,none⟩=some (.int .u8 bu):=(af aD.out 0).trans rfl;have ayf:U6.cell? ⟨bz,1,none⟩=some (.int .i64 bX):=(af aD.out 1).trans rfl;have ayg:U6.cell? ⟨bz,2,none⟩=some (.int .i64 cK):=(af aD.out 2).trans rfl;have ayh:U6.cell? ⟨bz,3,none⟩=some (.int .i64 bL):=(af aD.out 3).trans rfl;have ayi:U6.cell? ⟨bz,4,none⟩=some (.int .i64 bQ):=(af aD.out 4).trans rfl;have ayj:U6.cell? ⟨bz,5,none⟩=some (.bool b9):=(af aD.out 5).trans rfl;have ayk:U6.cell? ⟨bz,6,none⟩=some (.slice dA bT.length dw):=(af aD.out 6).trans rfl;have ayl:U6.cell? ⟨bz,7,none⟩=some (.string gX):=(af aD.out 7).trans rfl;have aym:U6.cell? ⟨bz,8,none⟩=some (.string cg):=(af aD.out 8).trans rfl;have ayn:U6.cell? ⟨bz,9,none⟩=some (.bool gY):=(af aD.out 9).trans rfl;have anf:U6.cell? ⟨bz,10,none⟩=some (.slice iV eI.length iW):=(af aD.out 10).trans rfl;have ang:U6.cell? ⟨bz,11,none⟩=some (.slice iX eJ.length iY):=(af aD.out 11).trans rfl;have anh:U6.cell? ⟨bz,12,none⟩=some (.int .i64 fI):=(af aD.out 12).trans rfl;have ayo:=aa aD.out 0;have ayp:=aa aD.out 1;have ayq:=aa aD.out 2;have ayr:=aa aD.out 3;have ays:=aa aD.out 4;have ayt:=aa aD.out 5;have ayu:=aa aD.out 6;have ayv:=aa aD.out 7;have ayw:=aa aD.out 8;have ayx:=aa aD.out 9;have ani:=aa aD.out 10;have anj:=aa aD.out 11;have ank:=aa aD.out 12)|((with_reducible refine bw (N:=9) rfl ?_);refine Kd.oa (Kd.int .i64) _ 3 ?hg (N:=9) ?hd (xs:=([bX,cK,bL]:List Int)) (inner:=[.int .i64 bX,.int .i64 cK,.int .i64 bL]) (ok:=fun _ =>True) (qK:=fun _ =>True) ?hr ?hp (fun _ hk=>hk) trivial (Below.refl _ _) (Nat.le_refl _) dz ?_;(case hd=>rfl);(case hg=>rfl);(case hr=>(go_simp;done));(case hp=>exact (eo.one (show Kd.M (Kd.int .i64) _ _ _ bX [.int .i64 bX] from rfl) (eo.one (show Kd.M (Kd.int .i64) _ _ _ cK [.int .i64 cK] from rfl) (eo.one (show Kd.M (Kd.int .i64) _ _ _ bL [.int .i64 bL] from rfl) (eo.none _ _)))));intro v222 Y5 ahe hb sP iC;clear sP iC;(rw [← CA.out] at ahe);have jD:=ah.mk (Kd.dY ahe (bV aI));replace aD:=ah.mk (az mR hb);replace HB:=ah.mk (av aI hb);clear hb ahe;obtain ⟨aDp,aDq,aDr⟩:=Kd.dF jD.out;subst aDr)|((with_reducible refine bE (f:=102) rfl ?_);refine dg (some 10) rfl rfl Tryz.func102 au rfl #[.slice aDp xz.length aDq] rfl dM ?_;(with_reducible refine (dm.calls k _ _ xz false _ ?bk ?bI A2.out).mono ?_);(case bk=>repeat (exact (Kd.bW jD.out).2.2));(case bI=>exact (Kd.bW jD.out).2.1);rintro e w' ⟨rfl,⟨nd,rfl⟩⟩;refine ⟨_,rfl,?_⟩))
  go_ret
  exact ⟨by rfl,eB⟩
end Go.Proofs.YtbjjaaodfbjkfaaGreatDoor.ow
