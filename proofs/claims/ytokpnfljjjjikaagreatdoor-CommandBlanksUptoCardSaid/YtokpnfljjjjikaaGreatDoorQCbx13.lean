import Derived.Test.YtokpnfljjjjikaaGreatDoorQCbx12
import Derived.Test.YtokpnfljjjjikaaGreatDoorEParse
import Derived.Test.YtokpnfljjjjikaaGreatDoorWRepsOne
set_option maxHeartbeats 8000000
set_option maxRecDepth 100000
namespace Go.Proofs.YtokpnfljjjjikaaGreatDoor.nK
open Go.RowKit Go.Proofs.aj.bQ Go.Proofs.aj.fR Go.Proofs.aj.cM
attribute [local go_sem] iY iZ ku kA ig ij jc jd
set_option linter.unusedVariables false
set_option linter.unusedSimpArgs false
def bP.f (k:Nat) (a0:ByteArray) (a1:Int):Option (Bool):=(ak.f k a0).bind fun pF=>(if pF.2.2.2.2.2.2.2.2=a1 then ((aY.f k pF.1 pF.2.1 pF.2.2.1 pF.2.2.2.1 pF.2.2.2.2.1 pF.2.2.2.2.2.1 pF.2.2.2.2.2.2.1 pF.2.2.2.2.2.2.2.1 0 (⟨#[]⟩:ByteArray) false ([]:List ByteArray) (⟨#[]⟩:ByteArray) (⟨#[]⟩:ByteArray) false ([]:List (gw))).bind fun t270=>(some t270)) else (none))
theorem bP.mono:∀ a0 a1 k,cH (bP.f k a0 a1) (bP.f (k + 1) a0 a1):=by
 intro a0 a1 k
 unfold bP.f
 repeat' first
  |(with_reducible exact ak.mono _ _)
  |(with_reducible exact aY.mono _ _ _ _ _ _ _ _ _ _ _ _ _ _ _ _ _)
  |(with_reducible exact cH.refl _)
  |(with_reducible exact cH.none _)
  |(with_reducible refine cH.ite ?_ ?_)
  |(with_reducible refine cH.bind ?_ (fun _ =>?_))
  |refine cH.ite ?_ ?_
  |refine cH.bind ?_ (fun _ =>?_)
theorem bP.calls (k:Nat) (a0:ByteArray) (a1:Int) (r:Bool) (w:World) (hG:aQ w) (h:bP.f k a0 a1=some r):
 Calls Tryz.prog 14 #[.string a0,.int .i64 a1] w fun e w'=>e= .returned (.bool r)∧Below w.heap.size w w':=by
 have LY:=Tryz.underlying35
 have HB:=ah.mk (Below.refl w.heap.size w)
 have HG:=ah.mk hG
 clear hG
 have H:((ak.f k a0).bind fun pF=>(if pF.2.2.2.2.2.2.2.2=a1 then ((aY.f k pF.1 pF.2.1 pF.2.2.1 pF.2.2.2.1 pF.2.2.2.2.1 pF.2.2.2.2.2.1 pF.2.2.2.2.2.2.1 pF.2.2.2.2.2.2.2.1 0 (⟨#[]⟩:ByteArray) false ([]:List ByteArray) (⟨#[]⟩:ByteArray) (⟨#[]⟩:ByteArray) false ([]:List (gw))).bind fun t270=>(some t270)) else (none)))=some r:=h
 clear h
 replace H:=Option.bind_eq_some_iff.mp H
 obtain ⟨⟨t256,t257,t258,t259,t262,t263,t264,t265,t268⟩,zf,H⟩:=H
 replace H:(if t268=a1 then ((aY.f k t256 t257 t258 t259 t262 t263 t264 t265 0 (⟨#[]⟩:ByteArray) false ([]:List ByteArray) (⟨#[]⟩:ByteArray) (⟨#[]⟩:ByteArray) false ([]:List (gw))).bind fun t270=>(some t270)) else (none))=some r:=H
 have A3:=ah.mk zf
 clear zf
 by_cases c4:t268=a1
 ·rw [if_pos c4] at H
  have oC:(t268 == a1)=true:=beq_iff_eq.mpr c4
  have Ge:(t268 != a1)=false:=bne_eq_false_iff_eq.mpr c4
  clear c4
  replace H:=Option.bind_eq_some_iff.mp H
  obtain ⟨t270,Qh,H⟩:=H
  replace H:(some t270)=some r:=H
  have A5:=ah.mk Qh
  clear Qh
  obtain rfl:=Option.some.inj H
  go_enter Tryz.func14,Tryz.ntmps14
  go_wp2_with (first|((with_reducible refine aU (f:=35) rfl ?_);refine cB (some 9) rfl rfl Tryz.func35 av rfl #[.string a0] rfl cX ?_;(with_reducible refine (ak.calls k a0 t256 t257 t258 t259 t262 t263 t264 t265 t268 _ ?aW A3.out).mono ?_);(case aW=>exact aQ.below HG.out cw);rintro e w6 ⟨amc,amd,rfl,ho0,ud,hb⟩;refine ⟨_,rfl,?_⟩;have bL:=ah.mk (Kd.kr ho0 (fL cw));have bS:=ah.mk (Kd.kr ud (fL cw));have cG:=ah.mk (aC cw hb);clear HB;have Cq:=bL;have Cr:=bS;have HB:=cG;clear bL bS cG;(try clear hb);(try clear hb2);(try clear hk);(try clear hi);(try clear ho0);(try clear ud))|((with_reducible refine cQ (N:=5) rfl ?_);refine cE ?hg (N:=5) ?hd (cs:=#[.int .u8 0,.string (⟨#[]⟩:ByteArray),.bool false,.slice none 0 0,.string (⟨#[]⟩:ByteArray),.string (⟨#[]⟩:ByteArray),.bool false,.slice none 0 0]) (t:=35) ?hr ?_;(case hd=>rfl);(case hg=>rfl);(case hr=>first|(go_simp;done)|(go_simp;rfl));intro lD hg w7 cY hb;have bL:=ah.mk (Kd.fB (by (with_reducible repeat (first|apply Kd.iD|apply Kd.iL|apply Kd.jT));exact Cq.out) hb);have bS:=ah.mk (Kd.fB (by (with_reducible repeat (first|apply Kd.iD|apply Kd.iL|apply Kd.jT));exact Cr.out) hb);have cG:=ah.mk (aC cw hb);have dA:=ah.mk (cY);have mG:=ah.mk ((dQ:w.heap.size≤lD));have rS:=ah.mk ((dQ:w.heap.size≤lD));clear Cq;clear Cr;clear HB;have Cq:=bL;have Cr:=bS;have HB:=cG;have nT:=dA;have akx:=mG;have acI:=rS;clear bL bS cG dA mG rS;clear hb cY hg;have wL:w7.cell? ⟨lD,0,none⟩=some (.int .u8 0):=(af nT.out 0).trans rfl;have wM:w7.cell? ⟨lD,1,none⟩=some (.string (⟨#[]⟩:ByteArray)):=(af nT.out 1).trans rfl;have BV:w7.cell? ⟨lD,2,none⟩=some (.bool false):=(af nT.out 2).trans rfl;have E1:w7.cell? ⟨lD,3,none⟩=some (.slice none 0 0):=(af nT.out 3).trans rfl;have E2:w7.cell? ⟨lD,4,none⟩=some (.string (⟨#[]⟩:ByteArray)):=(af nT.out 4).trans rfl;have abr:w7.cell? ⟨lD,5,none⟩=some (.string (⟨#[]⟩:ByteArray)):=(af nT.out 5).trans rfl;have abt:w7.cell? ⟨lD,6,none⟩=some (.bool false):=(af nT.out 6).trans rfl;have abu:w7.cell? ⟨lD,7,none⟩=some (.slice none 0 0):=(af nT.out 7).trans rfl;have wN:=aa nT.out 0;have wO:=aa nT.out 1;have BW:=aa nT.out 2;have E3:=aa nT.out 3;have E4:=aa nT.out 4;have abv:=aa nT.out 5;have abw:=aa nT.out 6;have abx:=aa nT.out 7;obtain ⟨Ao9,Zu,eo9⟩:=Kd.fI Cq.out;subst eo9;obtain ⟨aat,WL,aiz⟩:=Kd.fI Cr.out;subst aiz)|(go_at_call 36;(refine (aY.calls k t256 t257 t258 _ _ t259 t262 t263 t264 _ _ t265 0 (⟨#[]⟩:ByteArray) false _ _ ([]:List ByteArray) (⟨#[]⟩:ByteArray) (⟨#[]⟩:ByteArray) false _ _ ([]:List (gw)) t270 _ ?aW ?bY ?eO ?gP ?jN ?Vu ?Vv ?Vw A5.out).mono ?_);(case aW=>refine (Kd.iy (e:=9) (base:=w.heap.size) (ok:=fun k_ =>True) (n:=t259.length) (c:=Zu) ?_).2.2;exact Ua);(case bY=>exact (Kd.iy Cq.out).2.1);(case eO=>refine (Kd.iy (e:=58) (base:=w.heap.size) (ok:=fun k_ =>True) (n:=t265.length) (c:=WL) ?_).2.2;exact Ub);(case gP=>exact (Kd.iy Cr.out).2.1);(case jN=>exact Kd.sD _ _);(case Vu=>exact Nat.le_refl _);(case Vv=>exact Kd.sD _ _);(case Vw=>exact Nat.le_refl _);rintro e w11 ⟨rfl,hb⟩;have bL:=ah.mk (Kd.fB Ua hb);have bS:=ah.mk (Kd.fB Ub hb);have cG:=ah.mk (aX (g:=lD) (o:= .cells #[.int .u8 t256,.string t257,.bool t258,.slice Ao9 t259.length Zu,.string t262,.string t263,.bool t264,.slice aat t265.length WL] 35 (0,0)) (by (with_reducible repeat (first|refine bF ?_ _|refine bN ?_|refine bB ?_ _));refine cZ (cs:=#[.int .u8 t256,.string t257,.bool t258,.slice Ao9 t259.length Zu,.string t262,.string t263,.bool t264,.slice none 0 0]) ?_ 7 _ rfl;(with_reducible repeat (first|refine bF ?_ _|refine bN ?_|refine bB ?_ _));refine cZ (cs:=#[.int .u8 t256,.string t257,.bool t258,.slice Ao9 t259.length Zu,.string t262,.string t263,.bool false,.slice none 0 0]) ?_ 6 _ rfl;(with_reducible repeat (first|refine bF ?_ _|refine bN ?_|refine bB ?_ _));refine cZ (cs:=#[.int .u8 t256,.string t257,.bool t258,.slice Ao9 t259.length Zu,.string t262,.string (⟨#[]⟩:ByteArray),.bool false,.slice none 0 0]) ?_ 5 _ rfl;(with_reducible repeat (first|refine bF ?_ _|refine bN ?_|refine bB ?_ _));refine cZ (cs:=#[.int .u8 t256,.string t257,.bool t258,.slice Ao9 t259.length Zu,.string (⟨#[]⟩:ByteArray),.string (⟨#[]⟩:ByteArray),.bool false,.slice none 0 0]) ?_ 4 _ rfl;(with_reducible repeat (first|refine bF ?_ _|refine bN ?_|refine bB ?_ _));refine cZ (cs:=#[.int .u8 t256,.string t257,.bool t258,.slice none 0 0,.string (⟨#[]⟩:ByteArray),.string (⟨#[]⟩:ByteArray),.bool false,.slice none 0 0]) ?_ 3 _ rfl;(with_reducible repeat (first|refine bF ?_ _|refine bN ?_|refine bB ?_ _));refine cZ (cs:=#[.int .u8 t256,.string t257,.bool false,.slice none 0 0,.string (⟨#[]⟩:ByteArray),.string (⟨#[]⟩:ByteArray),.bool false,.slice none 0 0]) ?_ 2 _ rfl;(with_reducible repeat (first|refine bF ?_ _|refine bN ?_|refine bB ?_ _));refine cZ (cs:=#[.int .u8 t256,.string (⟨#[]⟩:ByteArray),.bool false,.slice none 0 0,.string (⟨#[]⟩:ByteArray),.string (⟨#[]⟩:ByteArray),.bool false,.slice none 0 0]) ?_ 1 _ rfl;(with_reducible repeat (first|refine bF ?_ _|refine bN ?_|refine bB ?_ _));refine cZ (cs:=#[.int .u8 0,.string (⟨#[]⟩:ByteArray),.bool false,.slice none 0 0,.string (⟨#[]⟩:ByteArray),.string (⟨#[]⟩:ByteArray),.bool false,.slice none 0 0]) ?_ 0 _ rfl;(with_reducible repeat (first|refine bF ?_ _|refine bN ?_|refine bB ?_ _));exact nT.out) hb);have dA:=ah.mk (aC PW hb);clear Cq;clear Cr;clear nT;clear HB;have Cq:=bL;have Cr:=bS;have nT:=cG;have HB:=dA;clear bL bS cG dA;(try clear hb);(try clear hb2);(try clear hk);(try clear hi)))
  go_ret
  exact ⟨cO,PW⟩
 ·rw [if_neg c4] at H
  exact absurd H aV
def bg.f (k:Nat) (a0:ByteArray) (fS:Int) (iW:ByteArray) (fW:Bool) (iB:List ByteArray) (fX:ByteArray) (iT:ByteArray) (iU:Bool) (gF:List (gw)):Option (Bool):=(ak.f k a0).bind fun pG=>(if pG.2.2.2.2.2.2.2.2=0 then ((aY.f k pG.1 pG.2.1 pG.2.2.1 pG.2.2.2.1 pG.2.2.2.2.1 pG.2.2.2.2.2.1 pG.2.2.2.2.2.2.1 pG.2.2.2.2.2.2.2.1 fS iW fW iB fX iT iU gF).bind fun Ms=>(some Ms)) else (none))
theorem bg.mono:∀ a0 a1 a2 a3 a4 a5 a6 a7 a8 k,cH (bg.f k a0 a1 a2 a3 a4 a5 a6 a7 a8) (bg.f (k + 1) a0 a1 a2 a3 a4 a5 a6 a7 a8):=by
 intro a0 a1 a2 a3 a4 a5 a6 a7 a8 k
 unfold bg.f
 repeat' first
  |(with_reducible exact ak.mono _ _)
  |(with_reducible exact aY.mono _ _ _ _ _ _ _ _ _ _ _ _ _ _ _ _ _)
  |(with_reducible exact cH.refl _)
  |(with_reducible exact cH.none _)
  |(with_reducible refine cH.ite ?_ ?_)
  |(with_reducible refine cH.bind ?_ (fun _ =>?_))
  |refine cH.ite ?_ ?_
  |refine cH.bind ?_ (fun _ =>?_)
theorem bg.calls (k:Nat) (a0:ByteArray) (fS:Int) (iW:ByteArray) (fW:Bool) (nW:Option Addr) (nX:Nat) (iB:List ByteArray) (fX:ByteArray) (iT:ByteArray) (iU:Bool) (nY:Option Addr) (nZ:Nat) (gF:List (gw)) (r:Bool) (w:World) (LU:Kd.C Kd.string w nW iB.length iB) (LV:iB.length≤nX) (LW:Kd.C zN w nY gF.length gF) (LX:gF.length≤nZ) (hG:aQ w) (h:bg.f k a0 fS iW fW iB fX iT iU gF=some r):
 Calls Tryz.prog 16 #[.string a0,.agg #[.int .u8 fS,.string iW,.bool fW,.slice nW iB.length nX,.string fX,.string iT,.bool iU,.slice nY gF.length nZ]] w fun e w'=>e= .returned (.bool r)∧Below w.heap.size w w':=by
 have LY:=Tryz.underlying35
 have CI:=ah.mk LU
 have CJ:=ah.mk LV
 clear LU LV
 have QH:=ah.mk LW
 have ZL:=ah.mk LX
 clear LW LX
 have HB:=ah.mk (Below.refl w.heap.size w)
 have HG:=ah.mk hG
 clear hG
 have H:((ak.f k a0).bind fun pG=>(if pG.2.2.2.2.2.2.2.2=0 then ((aY.f k pG.1 pG.2.1 pG.2.2.1 pG.2.2.2.1 pG.2.2.2.2.1 pG.2.2.2.2.2.1 pG.2.2.2.2.2.2.1 pG.2.2.2.2.2.2.2.1 fS iW fW iB fX iT iU gF).bind fun Ms=>(some Ms)) else (none)))=some r:=h
 clear h
 replace H:=Option.bind_eq_some_iff.mp H
 obtain ⟨⟨BK,Dc,Ez,EA,Hx,Lr,NH,NI,Vx⟩,zf,H⟩:=H
 replace H:(if Vx=0 then ((aY.f k BK Dc Ez EA Hx Lr NH NI fS iW fW iB fX iT iU gF).bind fun Ms=>(some Ms)) else (none))=some r:=H
 have A3:=ah.mk zf
 clear zf
 by_cases c4:Vx=0
 ·rw [if_pos c4] at H
  have oC:(Vx == 0)=true:=beq_iff_eq.mpr c4
  have Ge:(Vx != 0)=false:=bne_eq_false_iff_eq.mpr c4
  clear c4
  replace H:=Option.bind_eq_some_iff.mp H
  obtain ⟨Ms,Qh,H⟩:=H
  replace H:(some Ms)=some r:=H
  have A5:=ah.mk Qh
  clear Qh
  obtain rfl:=Option.some.inj H
  go_enter Tryz.func16,Tryz.ntmps16
  go_wp2_with (first|((with_reducible refine cQ (N:=3) rfl ?_);refine cE ?hg (N:=3) ?hd (cs:=#[.int .u8 fS,.string iW,.bool fW,.slice nW iB.length nX,.string fX,.string iT,.bool iU,.slice nY gF.length nZ]) (t:=35) ?hr ?_;(case hd=>rfl);(case hg=>rfl);(case hr=>first|(go_simp;done)|(go_simp;rfl));intro qT hg w6 cY hb;have bL:=ah.mk (aC cw hb);have bS:=ah.mk (cY);have cG:=ah.mk ((dQ:w.heap.size≤qT));have dA:=ah.mk ((dQ:w.heap.size≤qT));clear HB;have HB:=bL;have mO:=bS;have aky:=cG;have T6:=dA;clear bL bS cG dA;clear hb cY hg)|((with_reducible refine aU (f:=35) rfl ?_);refine cB (some 9) rfl rfl Tryz.func35 av rfl #[.string a0] rfl cX ?_;(with_reducible refine (ak.calls k a0 BK Dc Ez EA Hx Lr NH NI Vx _ ?aW A3.out).mono ?_);(case aW=>exact aQ.below HG.out Ey);rintro e w7 ⟨amf,amg,rfl,ho0,ud,hb⟩;refine ⟨_,rfl,?_⟩;have bL:=ah.mk (Kd.kr ho0 (fL Ey));have bS:=ah.mk (Kd.kr ud (fL Ey));have cG:=ah.mk (aX (g:=qT) (o:= .cells #[.int .u8 fS,.string iW,.bool fW,.slice nW iB.length nX,.string fX,.string iT,.bool iU,.slice nY gF.length nZ] 35 (0,0)) H6 hb);have dA:=ah.mk (aC Ey hb);clear mO;clear HB;have Cn:=bL;have Co:=bS;have mO:=cG;have HB:=dA;clear bL bS cG dA;(try clear hb);(try clear hb2);(try clear hk);(try clear hi);(try clear ho0);(try clear ud))|((with_reducible refine cQ (N:=5) rfl ?_);refine cE ?hg (N:=5) ?hd (cs:=#[.int .u8 0,.string (⟨#[]⟩:ByteArray),.bool false,.slice none 0 0,.string (⟨#[]⟩:ByteArray),.string (⟨#[]⟩:ByteArray),.bool false,.slice none 0 0]) (t:=35) ?hr ?_;(case hd=>rfl);(case hg=>rfl);(case hr=>first|(go_simp;done)|(go_simp;rfl));intro kP hg w8 cY hb;have bL:=ah.mk (Kd.fB (by (with_reducible repeat (first|apply Kd.iD|apply Kd.iL|apply Kd.jT));exact Cn.out) hb);have bS:=ah.mk (Kd.fB (by (with_reducible repeat (first|apply Kd.iD|apply Kd.iL|apply Kd.jT));exact Co.out) hb);have cG:=ah.mk (aX (g:=qT) (o:= .cells #[.int .u8 fS,.string iW,.bool fW,.slice nW iB.length nX,.string fX,.string iT,.bool iU,.slice nY gF.length nZ] 35 (0,0)) H6 hb);have dA:=ah.mk (aC Ey hb);have mG:=ah.mk (cY);have rS:=ah.mk ((PR:w.heap.size≤kP));have sL:=ah.mk ((PR:w.heap.size≤kP));have Ml:=ah.mk ((by rw [hg];exact Nat.ne_of_lt (kf (g:=qT) (o:= .cells #[.int .u8 fS,.string iW,.bool fW,.slice nW iB.length nX,.string fX,.string iT,.bool iU,.slice nY gF.length nZ] 35 (0,0)) H6):qT≠kP));have RF:=ah.mk ((by rw [hg];exact Nat.ne_of_gt (kf (g:=qT) (o:= .cells #[.int .u8 fS,.string iW,.bool fW,.slice nW iB.length nX,.string fX,.string iT,.bool iU,.slice nY gF.length nZ] 35 (0,0)) H6):kP≠qT));clear Cn;clear Co;clear mO;clear HB;have Cn:=bL;have Co:=bS;have mO:=cG;have HB:=dA;have nS:=mG;have akz:=rS;have acG:=sL;have nE:=Ml;have SR:=RF;clear bL bS cG dA mG rS sL Ml RF;clear hb cY hg;have amh:=SR.out;have ami:=nE.out;have J0:w8.cell? ⟨kP,0,none⟩=some (.int .u8 0):=(af nS.out 0).trans rfl;have J1:w8.cell? ⟨kP,1,none⟩=some (.string (⟨#[]⟩:ByteArray)):=(af nS.out 1).trans rfl;have J2:w8.cell? ⟨kP,2,none⟩=some (.bool false):=(af nS.out 2).trans rfl;have Yy:w8.cell? ⟨kP,3,none⟩=some (.slice none 0 0):=(af nS.out 3).trans rfl;have Yz:w8.cell? ⟨kP,4,none⟩=some (.string (⟨#[]⟩:ByteArray)):=(af nS.out 4).trans rfl;have aga:w8.cell? ⟨kP,5,none⟩=some (.string (⟨#[]⟩:ByteArray)):=(af nS.out 5).trans rfl;have agb:w8.cell? ⟨kP,6,none⟩=some (.bool false):=(af nS.out 6).trans rfl;have agc:w8.cell? ⟨kP,7,none⟩=some (.slice none 0 0):=(af nS.out 7).trans rfl;have J3:=aa nS.out 0;have J4:=aa nS.out 1;have J5:=aa nS.out 2;have YA:=aa nS.out 3;have YB:=aa nS.out 4;have agd:=aa nS.out 5;have age:=aa nS.out 6;have agf:=aa nS.out 7;obtain ⟨NG,Lq,aiA⟩:=Kd.fI Cn.out;subst aiA;obtain ⟨aar,WK,aiB⟩:=Kd.fI Co.out;subst aiB;have qi:w8.cell? ⟨qT,0,none⟩=some (.int .u8 fS):=(af mO.out 0).trans rfl;have qj:w8.cell? ⟨qT,1,none⟩=some (.string iW):=(af mO.out 1).trans rfl;have uJ:w8.cell? ⟨qT,2,none⟩=some (.bool fW):=(af mO.out 2).trans rfl;have DK:w8.cell? ⟨qT,3,none⟩=some (.slice nW iB.length nX):=(af mO.out 3).trans rfl;have DL:w8.cell? ⟨qT,4,none⟩=some (.string fX):=(af mO.out 4).trans rfl;have agh:w8.cell? ⟨qT,5,none⟩=some (.string iT):=(af mO.out 5).trans rfl;have agi:w8.cell? ⟨qT,6,none⟩=some (.bool iU):=(af mO.out 6).trans rfl;have agj:w8.cell? ⟨qT,7,none⟩=some (.slice nY gF.length nZ):=(af mO.out 7).trans rfl;have qm:=aa mO.out 0;have qo:=aa mO.out 1;have uK:=aa mO.out 2;have DM:=aa mO.out 3;have DN:=aa mO.out 4;have agk:=aa mO.out 5;have agl:=aa mO.out 6;have agm:=aa mO.out 7)|(go_at_call 36;(with_reducible refine (aY.calls k BK Dc Ez _ _ EA Hx Lr NH _ _ NI fS iW fW _ _ iB fX iT iU _ _ gF Ms _ ?aW ?bY ?eO ?gP ?jN ?Vu ?Vv ?Vw A5.out).mono ?_);(case aW=>refine (Kd.iy (e:=9) (base:=w.heap.size) (ok:=fun k_ =>True) (n:=EA.length) (c:=Lq) ?_).2.2;exact T7);(case bY=>exact (Kd.iy Cn.out).2.1);(case eO=>refine (Kd.iy (e:=58) (base:=w.heap.size) (ok:=fun k_ =>True) (n:=NI.length) (c:=WK) ?_).2.2;exact T9);(case gP=>exact (Kd.iy Co.out).2.1);(case jN=>exact Kd.eF CI.out Hz);(case Vu=>exact CJ.out);(case Vv=>exact Kd.eF QH.out Hz);(case Vw=>exact ZL.out);rintro e GK ⟨rfl,hb⟩;have bL:=ah.mk (Kd.fB T7 hb);have bS:=ah.mk (Kd.fB T9 hb);have cG:=ah.mk (aX (g:=qT) (o:= .cells #[.int .u8 fS,.string iW,.bool fW,.slice nW iB.length nX,.string fX,.string iT,.bool iU,.slice nY gF.length nZ] 35 (0,0)) (by (with_reducible repeat (first|refine bF ?_ _|refine bN ?_|refine bB ?_ _));refine iM ?_ nE.out _;(with_reducible repeat (first|refine bF ?_ _|refine bN ?_|refine bB ?_ _));refine iM ?_ nE.out _;(with_reducible repeat (first|refine bF ?_ _|refine bN ?_|refine bB ?_ _));refine iM ?_ nE.out _;(with_reducible repeat (first|refine bF ?_ _|refine bN ?_|refine bB ?_ _));refine iM ?_ nE.out _;(with_reducible repeat (first|refine bF ?_ _|refine bN ?_|refine bB ?_ _));refine iM ?_ nE.out _;(with_reducible repeat (first|refine bF ?_ _|refine bN ?_|refine bB ?_ _));refine iM ?_ nE.out _;(with_reducible repeat (first|refine bF ?_ _|refine bN ?_|refine bB ?_ _));refine iM ?_ nE.out _;(with_reducible repeat (first|refine bF ?_ _|refine bN ?_|refine bB ?_ _));refine iM ?_ nE.out _;(with_reducible repeat (first|refine bF ?_ _|refine bN ?_|refine bB ?_ _));exact mO.out) hb);have dA:=ah.mk (aX (g:=kP) (o:= .cells #[.int .u8 BK,.string Dc,.bool Ez,.slice NG EA.length Lq,.string Hx,.string Lr,.bool NH,.slice aar NI.length WK] 35 (0,0)) (by (with_reducible repeat (first|refine bF ?_ _|refine bN ?_|refine bB ?_ _));refine cZ (cs:=#[.int .u8 BK,.string Dc,.bool Ez,.slice NG EA.length Lq,.string Hx,.string Lr,.bool NH,.slice none 0 0]) ?_ 7 _ rfl;(with_reducible repeat (first|refine bF ?_ _|refine bN ?_|refine bB ?_ _));refine cZ (cs:=#[.int .u8 BK,.string Dc,.bool Ez,.slice NG EA.length Lq,.string Hx,.string Lr,.bool false,.slice none 0 0]) ?_ 6 _ rfl;(with_reducible repeat (first|refine bF ?_ _|refine bN ?_|refine bB ?_ _));refine cZ (cs:=#[.int .u8 BK,.string Dc,.bool Ez,.slice NG EA.length Lq,.string Hx,.string (⟨#[]⟩:ByteArray),.bool false,.slice none 0 0]) ?_ 5 _ rfl;(with_reducible repeat (first|refine bF ?_ _|refine bN ?_|refine bB ?_ _));refine cZ (cs:=#[.int .u8 BK,.string Dc,.bool Ez,.slice NG EA.length Lq,.string (⟨#[]⟩:ByteArray),.string (⟨#[]⟩:ByteArray),.bool false,.slice none 0 0]) ?_ 4 _ rfl;(with_reducible repeat (first|refine bF ?_ _|refine bN ?_|refine bB ?_ _));refine cZ (cs:=#[.int .u8 BK,.string Dc,.bool Ez,.slice none 0 0,.string (⟨#[]⟩:ByteArray),.string (⟨#[]⟩:ByteArray),.bool false,.slice none 0 0]) ?_ 3 _ rfl;(with_reducible repeat (first|refine bF ?_ _|refine bN ?_|refine bB ?_ _));refine cZ (cs:=#[.int .u8 BK,.string Dc,.bool false,.slice none 0 0,.string (⟨#[]⟩:ByteArray),.string (⟨#[]⟩:ByteArray),.bool false,.slice none 0 0]) ?_ 2 _ rfl;(with_reducible repeat (first|refine bF ?_ _|refine bN ?_|refine bB ?_ _));refine cZ (cs:=#[.int .u8 BK,.string (⟨#[]⟩:ByteArray),.bool false,.slice none 0 0,.string (⟨#[]⟩:ByteArray),.string (⟨#[]⟩:ByteArray),.bool false,.slice none 0 0]) ?_ 1 _ rfl;(with_reducible repeat (first|refine bF ?_ _|refine bN ?_|refine bB ?_ _));refine cZ (cs:=#[.int .u8 0,.string (⟨#[]⟩:ByteArray),.bool false,.slice none 0 0,.string (⟨#[]⟩:ByteArray),.string (⟨#[]⟩:ByteArray),.bool false,.slice none 0 0]) ?_ 0 _ rfl;(with_reducible repeat (first|refine bF ?_ _|refine bN ?_|refine bB ?_ _));exact nS.out) hb);have mG:=ah.mk (aC Hz hb);clear Cn;clear Co;clear mO;clear nS;clear HB;have Cn:=bL;have Co:=bS;have mO:=cG;have nS:=dA;have HB:=mG;clear bL bS cG dA mG;(try clear hb);(try clear hb2);(try clear hk);(try clear hi)))
  go_ret
  exact ⟨cO,Hz⟩
 ·rw [if_neg c4] at H
  exact absurd H aV
def bM.l0:Nat→List ByteArray→Int→Int→Option (Bool)
 | 0,_,_,_ =>none
 |k + 1,x4,x5,x6=>if x6 < x5 then (if 0≤x6 then (if x6 < (x4.length:Int) then ((bP.f k (jZ ByteArray.empty x4 x6) 161).bind fun YC=>(if YC=true then (bM.l0 k x4 x5 (wrap64 (x6 + 1))) else (none))) else (none)) else (none)) else ((bP.f k (⟨#[72,69,76,79,120]⟩:ByteArray) 160).bind fun YD=>(if YD=true then ((bP.f k (⟨#[]⟩:ByteArray) 160).bind fun Mt=>(if Mt=true then ((bg.f k (⟨#[109,97,105,108,32,102,114,111,109,58,60,65,64,66,46,99,62,32,115,105,122,101,61,57,32,66,79,68,89]⟩:ByteArray) 3 (⟨#[]⟩:ByteArray) false ([]:List ByteArray) (⟨#[65]⟩:ByteArray) (⟨#[98,46,99]⟩:ByteArray) false (([(⟨(⟨#[83,73,90,69]⟩:ByteArray),(⟨#[57]⟩:ByteArray),true⟩:gw),(⟨(⟨#[66,79,68,89]⟩:ByteArray),(⟨#[]⟩:ByteArray),false⟩:gw)]:List (gw)))).bind fun Bj=>(if Bj=true then ((bg.f k (⟨#[69,72,76,79,32,88,46,121]⟩:ByteArray) 2 (⟨#[120,46,121]⟩:ByteArray) false ([]:List ByteArray) (⟨#[]⟩:ByteArray) (⟨#[]⟩:ByteArray) false ([]:List (gw))).bind fun wu=>(if wu=true then ((bg.f k (⟨#[78,79,79,80]⟩:ByteArray) 9 (⟨#[]⟩:ByteArray) false ([]:List ByteArray) (⟨#[]⟩:ByteArray) (⟨#[]⟩:ByteArray) false ([]:List (gw))).bind fun sx=>(if sx=true then ((bg.f k (⟨#[78,79,79,80,32,97,32,32,98]⟩:ByteArray) 9 (⟨#[97,32,32,98]⟩:ByteArray) false ([]:List ByteArray) (⟨#[]⟩:ByteArray) (⟨#[]⟩:ByteArray) false ([]:List (gw))).bind fun qU=>(some qU)) else (none))) else (none))) else (none))) else (none))) else (none)))
def bM.f (k:Nat):Option (Bool):=(some (([(⟨#[78,79,79,80,32]⟩:ByteArray),(⟨#[77,65,73,76,32,70,82,79,77,58,32,60,62]⟩:ByteArray),(⟨#[68,65,84,65,32,120]⟩:ByteArray),(⟨#[82,67,80,84,32,84,79,58,60,62]⟩:ByteArray),(⟨#[77,65,73,76,32,70,82,79,77,58,60,112,111,115,116,109,97,115,116,101,114,62]⟩:ByteArray)]:List ByteArray):List ByteArray)).bind fun rB=>(bM.l0 k rB (rB.length:Int) 0)
theorem bM.fJ:∀ k,(∀ y0 y1 y2,cH (bM.l0 k y0 y1 y2) (bM.l0 (k + 1) y0 y1 y2))
 | 0=>fun _ _ _ r h=>by simp [bM.l0] at h
 |k + 1=>by
  have nP:=bM.fJ k
  ·intro y0 y1 y2
   unfold bM.l0
   repeat' first
   |(with_reducible exact nP _ _ _)
   |(with_reducible exact bg.mono _ _ _ _ _ _ _ _ _ _)
   |(with_reducible exact bP.mono _ _ _)
   |(with_reducible exact cH.refl _)
   |(with_reducible exact cH.none _)
   |(with_reducible refine cH.ite ?_ ?_)
   |(with_reducible refine cH.bind ?_ (fun _ =>?_))
   |refine cH.ite ?_ ?_
   |refine cH.bind ?_ (fun _ =>?_)
theorem bM.mono:∀ k,cH (bM.f k) (bM.f (k + 1)):=by
 intro k
 have nP:=bM.fJ k
 unfold bM.f
 repeat' first
  |(with_reducible exact nP _ _ _)
  |(with_reducible exact bg.mono _ _ _ _ _ _ _ _ _ _)
  |(with_reducible exact bP.mono _ _ _)
  |(with_reducible exact cH.refl _)
  |(with_reducible exact cH.none _)
  |(with_reducible refine cH.ite ?_ ?_)
  |(with_reducible refine cH.bind ?_ (fun _ =>?_))
  |refine cH.ite ?_ ?_
  |refine cH.bind ?_ (fun _ =>?_)
theorem bM.calls (k:Nat) (r:Bool) (w:World) (hG:aQ w) (h:bM.f k=some r):
 Calls Tryz.prog 15 #[] w fun e w'=>e= .returned (.bool r)∧Below w.heap.size w w':=by
 have LR:=Tryz.underlying30
 have Oc:=Tryz.underlying32
 have UM:=Tryz.underlying58
 have LY:=Tryz.underlying35
 have HB:=ah.mk (Below.refl w.heap.size w)
 have HG:=ah.mk hG
 clear hG
 have H:((some (([(⟨#[78,79,79,80,32]⟩:ByteArray),(⟨#[77,65,73,76,32,70,82,79,77,58,32,60,62]⟩:ByteArray),(⟨#[68,65,84,65,32,120]⟩:ByteArray),(⟨#[82,67,80,84,32,84,79,58,60,62]⟩:ByteArray),(⟨#[77,65,73,76,32,70,82,79,77,58,60,112,111,115,116,109,97,115,116,101,114,62]⟩:ByteArray)]:List ByteArray):List ByteArray)).bind fun rB=>(bM.l0 k rB (rB.length:Int) 0))=some r:=h
 clear h
 obtain ⟨rB,Mu⟩:∃ y_:List ByteArray,y_=(([(⟨#[78,79,79,80,32]⟩:ByteArray),(⟨#[77,65,73,76,32,70,82,79,77,58,32,60,62]⟩:ByteArray),(⟨#[68,65,84,65,32,120]⟩:ByteArray),(⟨#[82,67,80,84,32,84,79,58,60,62]⟩:ByteArray),(⟨#[77,65,73,76,32,70,82,79,77,58,60,112,111,115,116,109,97,115,116,101,114,62]⟩:ByteArray)]:List ByteArray)):=⟨_,rfl⟩
 replace H:(bM.l0 k rB (rB.length:Int) 0)=some r:=by first|(rw [Mu];with_reducible exact H)|(have Oz:=(Option.bind_some _ _).symm.trans H;rw [Mu];with_reducible exact Oz)|(have Oz:=(Option.bind_some _ _).symm.trans H;with_reducible exact Oz)|with_reducible exact H|(rw [Mu];exact H)|exact H
 have Z2:=ah.mk Mu
 clear Mu
 have H':=ah.mk H
 clear H
 go_enter Tryz.func15,Tryz.ntmps15
 go_wp2_with (first|((with_reducible refine cQ (N:=4) rfl ?_);(try (refine dS (by rfl) ?_;dsimp only));refine Kd.Zx Kd.string _ 9 ?hg (N:=4) ?hd (xs:=([(⟨#[78,79,79,80,32]⟩:ByteArray),(⟨#[77,65,73,76,32,70,82,79,77,58,32,60,62]⟩:ByteArray),(⟨#[68,65,84,65,32,120]⟩:ByteArray),(⟨#[82,67,80,84,32,84,79,58,60,62]⟩:ByteArray),(⟨#[77,65,73,76,32,70,82,79,77,58,60,112,111,115,116,109,97,115,116,101,114,62]⟩:ByteArray)]:List ByteArray)) (inner:=[.string (⟨#[78,79,79,80,32]⟩:ByteArray),.string (⟨#[77,65,73,76,32,70,82,79,77,58,32,60,62]⟩:ByteArray),.string (⟨#[68,65,84,65,32,120]⟩:ByteArray),.string (⟨#[82,67,80,84,32,84,79,58,60,62]⟩:ByteArray),.string (⟨#[77,65,73,76,32,70,82,79,77,58,60,112,111,115,116,109,97,115,116,101,114,62]⟩:ByteArray)]) (ok:=fun _ =>True) (N1:=fun _ =>True) ?hr ?hp (fun _ hk=>hk) trivial (Below.refl _ _) (Nat.le_refl _) aV ?_;(case hd=>rfl);(case hg=>rfl);(case hr=>first|(go_simp;done)|(go_simp;rfl));(case hp=>exact (ia.one (show Kd.M Kd.string _ _ _ (⟨#[78,79,79,80,32]⟩:ByteArray) [.string (⟨#[78,79,79,80,32]⟩:ByteArray)] from rfl) (ia.one (show Kd.M Kd.string _ _ _ (⟨#[77,65,73,76,32,70,82,79,77,58,32,60,62]⟩:ByteArray) [.string (⟨#[77,65,73,76,32,70,82,79,77,58,32,60,62]⟩:ByteArray)] from rfl) (ia.one (show Kd.M Kd.string _ _ _ (⟨#[68,65,84,65,32,120]⟩:ByteArray) [.string (⟨#[68,65,84,65,32,120]⟩:ByteArray)] from rfl) (ia.one (show Kd.M Kd.string _ _ _ (⟨#[82,67,80,84,32,84,79,58,60,62]⟩:ByteArray) [.string (⟨#[82,67,80,84,32,84,79,58,60,62]⟩:ByteArray)] from rfl) (ia.one (show Kd.M Kd.string _ _ _ (⟨#[77,65,73,76,32,70,82,79,77,58,60,112,111,115,116,109,97,115,116,101,114,62]⟩:ByteArray) [.string (⟨#[77,65,73,76,32,70,82,79,77,58,60,112,111,115,116,109,97,115,116,101,114,62]⟩:ByteArray)] from rfl) (ia.none _ _)))))));intro amj w1 yX hb hg_ Vy;clear hg_ Vy;(first|rw [← Z2.out] at yX|(simp only [Int.reduceToNat] at yX;rw [← Z2.out] at yX));have bL:=ah.mk (Kd.kr yX (fL cw));have bS:=ah.mk (aC cw hb);clear HB;have Z3:=bL;have HB:=bS;clear bL bS;clear hb yX;obtain ⟨Ao3,co3,eo3⟩:=Kd.fI Z3.out;subst eo3))
 go_loopg [6] k (fun kq v6 w'=>∃ (mX:Int),v6= .int .i64 mX∧ah (bM.l0 kq rB (rB.length:Int) mX=some r)∧ah (kq≤k)∧ah (Kd.R Kd.string 9 w' w.heap.size (fun _ =>True) (.slice Ao3 rB.length co3) rB)∧ah (Below w.heap.size w w'))
 case atStart=>exact ⟨(0),dG,H',⟨Nat.le_refl _⟩,⟨by (with_reducible repeat (first|apply Kd.iD|apply Kd.iL|apply Kd.jT));exact Z3.out⟩,⟨cw⟩⟩
 case round=>
  clear H'
  try clear c1
  try clear p2
  obtain ⟨mX,rfl,HA,uz,tQ,HB⟩:=hrel
  cases gk with
  |zero=>exact absurd HA.out (by simp [bM.l0])
  |succ k1=>
   have H:=HA.out
   clear HA
   simp only [bM.l0] at H
   by_cases c4:mX < (rB.length:Int)
   ·rw [if_pos c4] at H
    have oC:decide (mX < (rB.length:Int))=true:=decide_eq_true c4
    clear c4
    by_cases c5: 0≤mX
    ·rw [if_pos c5] at H
     have tR:decide (0≤mX)=true:=decide_eq_true c5
     clear c5
     by_cases c6:mX < (rB.length:Int)
     ·rw [if_pos c6] at H
      have pP:decide (mX < (rB.length:Int))=true:=decide_eq_true c6
      clear c6
      replace H:=Option.bind_eq_some_iff.mp H
      obtain ⟨YC,GJ,H⟩:=H
      replace H:(if YC=true then (bM.l0 k1 rB (rB.length:Int) (wrap64 (mX + 1))) else (none))=some r:=H
      have A7:=ah.mk GJ
      clear GJ
      by_cases c8:YC=true
      ·subst c8
       have H1:(bM.l0 k1 rB (rB.length:Int) (wrap64 (mX + 1)))=some r:=by rw [if_pos rfl] at H;exact H
       clear H
       have H:=H1
       clear H1
       have H':=ah.mk H
       clear H
       have aby: 0≤(mX:Int):=of_decide_eq_true cL
       have abz:mX < (rB.length:Int):=of_decide_eq_true cL
       obtain ⟨akA,aiD,agn⟩:=Kd.jk (Kd.iy tQ.out).2.2 mX aby abz
       cases aiD
       replace aby:=eq_true aby
       replace abz:=eq_true abz
       go_wp2_with (first|((with_reducible refine aU (f:=14) rfl ?_);refine cB (some 11) rfl rfl Tryz.func14 av rfl #[.string (jZ ByteArray.empty rB mX),.int .i64 161] rfl cX ?_;(with_reducible refine (bP.calls k1 (jZ ByteArray.empty rB mX) 161 true _ ?aW A7.out).mono ?_);(case aW=>exact aQ.below HG.out cw);rintro e w9 ⟨rfl,hb⟩;refine ⟨_,rfl,?_⟩;have bL:=ah.mk (Kd.fB uy hb);have bS:=ah.mk (aC cw hb);clear tQ;clear HB;have tQ:=bL;have HB:=bS;clear bL bS;(try clear hb);(try clear hb2);(try clear hk);(try clear hi)))
       go_roundg k1
       case measure=>have:=uz.out;omega
       case rel=>exact ⟨(wrap64 (mX + 1)),dG,H',⟨kX⟩,⟨uy⟩,⟨cw⟩⟩
      ·replace c8:=Bool.eq_false_iff.mpr c8
       subst c8
       have H1:(none)=some r:=by rw [if_neg (show ¬ (false=true) by decide)] at H;exact H
       clear H
       have H:=H1
       clear H1
       exact absurd H aV
     ·rw [if_neg c6] at H
      exact absurd H aV
    ·rw [if_neg c5] at H
     exact absurd H aV
   ·rw [if_neg c4] at H
    have oC:decide (mX < (rB.length:Int))=false:=decide_eq_false c4
    clear c4
    replace H:=Option.bind_eq_some_iff.mp H
    obtain ⟨YD,UQ,H⟩:=H
    replace H:(if YD=true then ((bP.f k1 (⟨#[]⟩:ByteArray) 160).bind fun Mt=>(if Mt=true then ((bg.f k1 (⟨#[109,97,105,108,32,102,114,111,109,58,60,65,64,66,46,99,62,32,115,105,122,101,61,57,32,66,79,68,89]⟩:ByteArray) 3 (⟨#[]⟩:ByteArray) false ([]:List ByteArray) (⟨#[65]⟩:ByteArray) (⟨#[98,46,99]⟩:ByteArray) false (([(⟨(⟨#[83,73,90,69]⟩:ByteArray),(⟨#[57]⟩:ByteArray),true⟩:gw),(⟨(⟨#[66,79,68,89]⟩:ByteArray),(⟨#[]⟩:ByteArray),false⟩:gw)]:List (gw)))).bind fun Bj=>(if Bj=true then ((bg.f k1 (⟨#[69,72,76,79,32,88,46,121]⟩:ByteArray) 2 (⟨#[120,46,121]⟩:ByteArray) false ([]:List ByteArray) (⟨#[]⟩:ByteArray) (⟨#[]⟩:ByteArray) false ([]:List (gw))).bind fun wu=>(if wu=true then ((bg.f k1 (⟨#[78,79,79,80]⟩:ByteArray) 9 (⟨#[]⟩:ByteArray) false ([]:List ByteArray) (⟨#[]⟩:ByteArray) (⟨#[]⟩:ByteArray) false ([]:List (gw))).bind fun sx=>(if sx=true then ((bg.f k1 (⟨#[78,79,79,80,32,97,32,32,98]⟩:ByteArray) 9 (⟨#[97,32,32,98]⟩:ByteArray) false ([]:List ByteArray) (⟨#[]⟩:ByteArray) (⟨#[]⟩:ByteArray) false ([]:List (gw))).bind fun qU=>(some qU)) else (none))) else (none))) else (none))) else (none))) else (none))=some r:=H
    have A10:=ah.mk UQ
    clear UQ
    by_cases c11:YD=true
    ·subst c11
     have H1:((bP.f k1 (⟨#[]⟩:ByteArray) 160).bind fun Mt=>(if Mt=true then ((bg.f k1 (⟨#[109,97,105,108,32,102,114,111,109,58,60,65,64,66,46,99,62,32,115,105,122,101,61,57,32,66,79,68,89]⟩:ByteArray) 3 (⟨#[]⟩:ByteArray) false ([]:List ByteArray) (⟨#[65]⟩:ByteArray) (⟨#[98,46,99]⟩:ByteArray) false (([(⟨(⟨#[83,73,90,69]⟩:ByteArray),(⟨#[57]⟩:ByteArray),true⟩:gw),(⟨(⟨#[66,79,68,89]⟩:ByteArray),(⟨#[]⟩:ByteArray),false⟩:gw)]:List (gw)))).bind fun Bj=>(if Bj=true then ((bg.f k1 (⟨#[69,72,76,79,32,88,46,121]⟩:ByteArray) 2 (⟨#[120,46,121]⟩:ByteArray) false ([]:List ByteArray) (⟨#[]⟩:ByteArray) (⟨#[]⟩:ByteArray) false ([]:List (gw))).bind fun wu=>(if wu=true then ((bg.f k1 (⟨#[78,79,79,80]⟩:ByteArray) 9 (⟨#[]⟩:ByteArray) false ([]:List ByteArray) (⟨#[]⟩:ByteArray) (⟨#[]⟩:ByteArray) false ([]:List (gw))).bind fun sx=>(if sx=true then ((bg.f k1 (⟨#[78,79,79,80,32,97,32,32,98]⟩:ByteArray) 9 (⟨#[97,32,32,98]⟩:ByteArray) false ([]:List ByteArray) (⟨#[]⟩:ByteArray) (⟨#[]⟩:ByteArray) false ([]:List (gw))).bind fun qU=>(some qU)) else (none))) else (none))) else (none))) else (none)))=some r:=by rw [if_pos rfl] at H;exact H
     clear H
     have H:=H1
     clear H1
     replace H:=Option.bind_eq_some_iff.mp H
     obtain ⟨Mt,E7,H⟩:=H
     replace H:(if Mt=true then ((bg.f k1 (⟨#[109,97,105,108,32,102,114,111,109,58,60,65,64,66,46,99,62,32,115,105,122,101,61,57,32,66,79,68,89]⟩:ByteArray) 3 (⟨#[]⟩:ByteArray) false ([]:List ByteArray) (⟨#[65]⟩:ByteArray) (⟨#[98,46,99]⟩:ByteArray) false (([(⟨(⟨#[83,73,90,69]⟩:ByteArray),(⟨#[57]⟩:ByteArray),true⟩:gw),(⟨(⟨#[66,79,68,89]⟩:ByteArray),(⟨#[]⟩:ByteArray),false⟩:gw)]:List (gw)))).bind fun Bj=>(if Bj=true then ((bg.f k1 (⟨#[69,72,76,79,32,88,46,121]⟩:ByteArray) 2 (⟨#[120,46,121]⟩:ByteArray) false ([]:List ByteArray) (⟨#[]⟩:ByteArray) (⟨#[]⟩:ByteArray) false ([]:List (gw))).bind fun wu=>(if wu=true then ((bg.f k1 (⟨#[78,79,79,80]⟩:ByteArray) 9 (⟨#[]⟩:ByteArray) false ([]:List ByteArray) (⟨#[]⟩:ByteArray) (⟨#[]⟩:ByteArray) false ([]:List (gw))).bind fun sx=>(if sx=true then ((bg.f k1 (⟨#[78,79,79,80,32,97,32,32,98]⟩:ByteArray) 9 (⟨#[97,32,32,98]⟩:ByteArray) false ([]:List ByteArray) (⟨#[]⟩:ByteArray) (⟨#[]⟩:ByteArray) false ([]:List (gw))).bind fun qU=>(some qU)) else (none))) else (none))) else (none))) else (none))=some r:=H
     have Lh:=ah.mk E7
     clear E7
     by_cases c13:Mt=true
     ·subst c13
      have H1:((bg.f k1 (⟨#[109,97,105,108,32,102,114,111,109,58,60,65,64,66,46,99,62,32,115,105,122,101,61,57,32,66,79,68,89]⟩:ByteArray) 3 (⟨#[]⟩:ByteArray) false ([]:List ByteArray) (⟨#[65]⟩:ByteArray) (⟨#[98,46,99]⟩:ByteArray) false (([(⟨(⟨#[83,73,90,69]⟩:ByteArray),(⟨#[57]⟩:ByteArray),true⟩:gw),(⟨(⟨#[66,79,68,89]⟩:ByteArray),(⟨#[]⟩:ByteArray),false⟩:gw)]:List (gw)))).bind fun Bj=>(if Bj=true then ((bg.f k1 (⟨#[69,72,76,79,32,88,46,121]⟩:ByteArray) 2 (⟨#[120,46,121]⟩:ByteArray) false ([]:List ByteArray) (⟨#[]⟩:ByteArray) (⟨#[]⟩:ByteArray) false ([]:List (gw))).bind fun wu=>(if wu=true then ((bg.f k1 (⟨#[78,79,79,80]⟩:ByteArray) 9 (⟨#[]⟩:ByteArray) false ([]:List ByteArray) (⟨#[]⟩:ByteArray) (⟨#[]⟩:ByteArray) false ([]:List (gw))).bind fun sx=>(if sx=true then ((bg.f k1 (⟨#[78,79,79,80,32,97,32,32,98]⟩:ByteArray) 9 (⟨#[97,32,32,98]⟩:ByteArray) false ([]:List ByteArray) (⟨#[]⟩:ByteArray) (⟨#[]⟩:ByteArray) false ([]:List (gw))).bind fun qU=>(some qU)) else (none))) else (none))) else (none)))=some r:=by rw [if_pos rfl] at H;exact H
      clear H
      have H:=H1
      clear H1
      obtain ⟨adW,Mv⟩:∃ y_:List (gw),y_=(([(⟨(⟨#[83,73,90,69]⟩:ByteArray),(⟨#[57]⟩:ByteArray),true⟩:gw),(⟨(⟨#[66,79,68,89]⟩:ByteArray),(⟨#[]⟩:ByteArray),false⟩:gw)]:List (gw))):=⟨_,rfl⟩
      replace H:((bg.f k1 (⟨#[109,97,105,108,32,102,114,111,109,58,60,65,64,66,46,99,62,32,115,105,122,101,61,57,32,66,79,68,89]⟩:ByteArray) 3 (⟨#[]⟩:ByteArray) false ([]:List ByteArray) (⟨#[65]⟩:ByteArray) (⟨#[98,46,99]⟩:ByteArray) false adW).bind fun Bj=>(if Bj=true then ((bg.f k1 (⟨#[69,72,76,79,32,88,46,121]⟩:ByteArray) 2 (⟨#[120,46,121]⟩:ByteArray) false ([]:List ByteArray) (⟨#[]⟩:ByteArray) (⟨#[]⟩:ByteArray) false ([]:List (gw))).bind fun wu=>(if wu=true then ((bg.f k1 (⟨#[78,79,79,80]⟩:ByteArray) 9 (⟨#[]⟩:ByteArray) false ([]:List ByteArray) (⟨#[]⟩:ByteArray) (⟨#[]⟩:ByteArray) false ([]:List (gw))).bind fun sx=>(if sx=true then ((bg.f k1 (⟨#[78,79,79,80,32,97,32,32,98]⟩:ByteArray) 9 (⟨#[97,32,32,98]⟩:ByteArray) false ([]:List ByteArray) (⟨#[]⟩:ByteArray) (⟨#[]⟩:ByteArray) false ([]:List (gw))).bind fun qU=>(some qU)) else (none))) else (none))) else (none)))=some r:=by first|(rw [Mv];with_reducible exact H)|(have Oz:=(Option.bind_some _ _).symm.trans H;rw [Mv];with_reducible exact Oz)|(have Oz:=(Option.bind_some _ _).symm.trans H;with_reducible exact Oz)|with_reducible exact H|(rw [Mv];exact H)|exact H
      have Z4:=ah.mk Mv
      clear Mv
      replace H:=Option.bind_eq_some_iff.mp H
      obtain ⟨Bj,Bd,H⟩:=H
      replace H:(if Bj=true then ((bg.f k1 (⟨#[69,72,76,79,32,88,46,121]⟩:ByteArray) 2 (⟨#[120,46,121]⟩:ByteArray) false ([]:List ByteArray) (⟨#[]⟩:ByteArray) (⟨#[]⟩:ByteArray) false ([]:List (gw))).bind fun wu=>(if wu=true then ((bg.f k1 (⟨#[78,79,79,80]⟩:ByteArray) 9 (⟨#[]⟩:ByteArray) false ([]:List ByteArray) (⟨#[]⟩:ByteArray) (⟨#[]⟩:ByteArray) false ([]:List (gw))).bind fun sx=>(if sx=true then ((bg.f k1 (⟨#[78,79,79,80,32,97,32,32,98]⟩:ByteArray) 9 (⟨#[97,32,32,98]⟩:ByteArray) false ([]:List ByteArray) (⟨#[]⟩:ByteArray) (⟨#[]⟩:ByteArray) false ([]:List (gw))).bind fun qU=>(some qU)) else (none))) else (none))) else (none))=some r:=H
      have UR:=ah.mk Bd
      clear Bd
      by_cases c15:Bj=true
      ·subst c15
       have H1:((bg.f k1 (⟨#[69,72,76,79,32,88,46,121]⟩:ByteArray) 2 (⟨#[120,46,121]⟩:ByteArray) false ([]:List ByteArray) (⟨#[]⟩:ByteArray) (⟨#[]⟩:ByteArray) false ([]:List (gw))).bind fun wu=>(if wu=true then ((bg.f k1 (⟨#[78,79,79,80]⟩:ByteArray) 9 (⟨#[]⟩:ByteArray) false ([]:List ByteArray) (⟨#[]⟩:ByteArray) (⟨#[]⟩:ByteArray) false ([]:List (gw))).bind fun sx=>(if sx=true then ((bg.f k1 (⟨#[78,79,79,80,32,97,32,32,98]⟩:ByteArray) 9 (⟨#[97,32,32,98]⟩:ByteArray) false ([]:List ByteArray) (⟨#[]⟩:ByteArray) (⟨#[]⟩:ByteArray) false ([]:List (gw))).bind fun qU=>(some qU)) else (none))) else (none)))=some r:=by rw [if_pos rfl] at H;exact H
       clear H
       have H:=H1
       clear H1
       replace H:=Option.bind_eq_some_iff.mp H
       obtain ⟨wu,Mn,H⟩:=H
       replace H:(if wu=true then ((bg.f k1 (⟨#[78,79,79,80]⟩:ByteArray) 9 (⟨#[]⟩:ByteArray) false ([]:List ByteArray) (⟨#[]⟩:ByteArray) (⟨#[]⟩:ByteArray) false ([]:List (gw))).bind fun sx=>(if sx=true then ((bg.f k1 (⟨#[78,79,79,80,32,97,32,32,98]⟩:ByteArray) 9 (⟨#[97,32,32,98]⟩:ByteArray) false ([]:List ByteArray) (⟨#[]⟩:ByteArray) (⟨#[]⟩:ByteArray) false ([]:List (gw))).bind fun qU=>(some qU)) else (none))) else (none))=some r:=H
       have A16:=ah.mk Mn
       clear Mn
       by_cases c17:wu=true
       ·subst c17
        have H1:((bg.f k1 (⟨#[78,79,79,80]⟩:ByteArray) 9 (⟨#[]⟩:ByteArray) false ([]:List ByteArray) (⟨#[]⟩:ByteArray) (⟨#[]⟩:ByteArray) false ([]:List (gw))).bind fun sx=>(if sx=true then ((bg.f k1 (⟨#[78,79,79,80,32,97,32,32,98]⟩:ByteArray) 9 (⟨#[97,32,32,98]⟩:ByteArray) false ([]:List ByteArray) (⟨#[]⟩:ByteArray) (⟨#[]⟩:ByteArray) false ([]:List (gw))).bind fun qU=>(some qU)) else (none)))=some r:=by rw [if_pos rfl] at H;exact H
        clear H
        have H:=H1
        clear H1
        replace H:=Option.bind_eq_some_iff.mp H
        obtain ⟨sx,Mo,H⟩:=H
        replace H:(if sx=true then ((bg.f k1 (⟨#[78,79,79,80,32,97,32,32,98]⟩:ByteArray) 9 (⟨#[97,32,32,98]⟩:ByteArray) false ([]:List ByteArray) (⟨#[]⟩:ByteArray) (⟨#[]⟩:ByteArray) false ([]:List (gw))).bind fun qU=>(some qU)) else (none))=some r:=H
        have A18:=ah.mk Mo
        clear Mo
        by_cases c19:sx=true
        ·subst c19
         have H1:((bg.f k1 (⟨#[78,79,79,80,32,97,32,32,98]⟩:ByteArray) 9 (⟨#[97,32,32,98]⟩:ByteArray) false ([]:List ByteArray) (⟨#[]⟩:ByteArray) (⟨#[]⟩:ByteArray) false ([]:List (gw))).bind fun qU=>(some qU))=some r:=by rw [if_pos rfl] at H;exact H
         clear H
         have H:=H1
         clear H1
         replace H:=Option.bind_eq_some_iff.mp H
         obtain ⟨qU,Vm,H⟩:=H
         replace H:(some qU)=some r:=H
         have nr:=ah.mk Vm
         clear Vm
         obtain rfl:=Option.some.inj H
         go_wp2_with (first|((with_reducible refine cQ (N:=3) rfl ?_);(try (refine dS (by rfl) ?_;dsimp only));refine cE ?hg (N:=3) ?hd (cs:=#[.bool false,.slice none 0 0,.string (⟨#[]⟩:ByteArray),.string (⟨#[]⟩:ByteArray),.bool false]) (t:=32) ?hr ?_;(case hd=>rfl);(case hg=>rfl);(case hr=>first|(go_simp;done)|(go_simp;rfl));intro mS hg XO cY hb;have bL:=ah.mk (Kd.fB uy hb);have bS:=ah.mk (aC cw hb);have cG:=ah.mk (cY);have dA:=ah.mk ((dQ:w.heap.size≤mS));have mG:=ah.mk ((dQ:w.heap.size≤mS));clear tQ;clear HB;have tQ:=bL;have HB:=bS;have jL:=cG;have akB:=dA;have acB:=mG;clear bL bS cG dA mG;clear hb cY hg;have yg:XO.cell? ⟨mS,0,none⟩=some (.bool false):=(af jL.out 0).trans rfl;have yh:XO.cell? ⟨mS,1,none⟩=some (.slice none 0 0):=(af jL.out 1).trans rfl;have Aw:XO.cell? ⟨mS,2,none⟩=some (.string (⟨#[]⟩:ByteArray)):=(af jL.out 2).trans rfl;have Jv:XO.cell? ⟨mS,3,none⟩=some (.string (⟨#[]⟩:ByteArray)):=(af jL.out 3).trans rfl;have Jw:XO.cell? ⟨mS,4,none⟩=some (.bool false):=(af jL.out 4).trans rfl;have yj:=aa jL.out 0;have yl:=aa jL.out 1;have Ax:=aa jL.out 2;have Jx:=aa jL.out 3;have Jy:=aa jL.out 4)|((with_reducible refine aU (f:=14) rfl ?_);refine cB (some 16) rfl rfl Tryz.func14 av rfl #[.string (⟨#[72,69,76,79,120]⟩:ByteArray),.int .i64 160] rfl cX ?_;(with_reducible refine (bP.calls k1 (⟨#[72,69,76,79,120]⟩:ByteArray) 160 true _ ?aW A10.out).mono ?_);(case aW=>exact aQ.below HG.out ow);rintro e Li ⟨rfl,hb⟩;refine ⟨_,rfl,?_⟩;have bL:=ah.mk (Kd.fB (by (with_reducible repeat (first|apply Kd.iD|apply Kd.iL|apply Kd.jT));exact (Kd.gL (Kd.eu (p:=⟨mS,4,none⟩) (Kd.eu (p:=⟨mS,3,none⟩) (Kd.eu (p:=⟨mS,2,none⟩) (Kd.eu (p:=⟨mS,1,none⟩) (Kd.eu (p:=⟨mS,0,none⟩) (Kd.nk tQ.out jL.out bG) (fun _ hk=>hk.2) (.bool false)) (fun _ hk=>hk.2) (.slice none 0 0)) (fun _ hk=>hk.2) (.string (⟨#[65]⟩:ByteArray))) (fun _ hk=>hk.2) (.string (⟨#[98,46,99]⟩:ByteArray))) (fun _ hk=>hk.2) (.bool false)) (fun _ h_ =>h_.1))) hb);have bS:=ah.mk (aX (g:=mS) (o:= .cells #[.bool false,.slice none 0 0,.string (⟨#[65]⟩:ByteArray),.string (⟨#[98,46,99]⟩:ByteArray),.bool false] 32 (0,0)) (by (with_reducible repeat (first|refine bF ?_ _|refine bN ?_|refine bB ?_ _));refine cZ (cs:=#[.bool false,.slice none 0 0,.string (⟨#[65]⟩:ByteArray),.string (⟨#[98,46,99]⟩:ByteArray),.bool false]) ?_ 4 _ rfl;(with_reducible repeat (first|refine bF ?_ _|refine bN ?_|refine bB ?_ _));refine cZ (cs:=#[.bool false,.slice none 0 0,.string (⟨#[65]⟩:ByteArray),.string (⟨#[]⟩:ByteArray),.bool false]) ?_ 3 _ rfl;(with_reducible repeat (first|refine bF ?_ _|refine bN ?_|refine bB ?_ _));refine cZ (cs:=#[.bool false,.slice none 0 0,.string (⟨#[]⟩:ByteArray),.string (⟨#[]⟩:ByteArray),.bool false]) ?_ 2 _ rfl;(with_reducible repeat (first|refine bF ?_ _|refine bN ?_|refine bB ?_ _));refine cZ (cs:=#[.bool false,.slice none 0 0,.string (⟨#[]⟩:ByteArray),.string (⟨#[]⟩:ByteArray),.bool false]) ?_ 1 _ rfl;(with_reducible repeat (first|refine bF ?_ _|refine bN ?_|refine bB ?_ _));refine cZ (cs:=#[.bool false,.slice none 0 0,.string (⟨#[]⟩:ByteArray),.string (⟨#[]⟩:ByteArray),.bool false]) ?_ 0 _ rfl;(with_reducible repeat (first|refine bF ?_ _|refine bN ?_|refine bB ?_ _));exact jL.out) hb);have cG:=ah.mk (aC ow hb);clear tQ;clear jL;clear HB;have tQ:=bL;have jL:=bS;have HB:=cG;clear bL bS cG;(try clear hb);(try clear hb2);(try clear hk);(try clear hi))|(go_at_call 14;(with_reducible refine (bP.calls k1 (⟨#[]⟩:ByteArray) 160 true _ ?aW Lh.out).mono ?_);(case aW=>exact aQ.below HG.out ow);rintro e KN ⟨rfl,hb⟩;have bL:=ah.mk (Kd.fB uy hb);have bS:=ah.mk (aX (g:=mS) (o:= .cells #[.bool false,.slice none 0 0,.string (⟨#[65]⟩:ByteArray),.string (⟨#[98,46,99]⟩:ByteArray),.bool false] 32 (0,0)) BM hb);have cG:=ah.mk (aC ow hb);clear tQ;clear jL;clear HB;have tQ:=bL;have jL:=bS;have HB:=cG;clear bL bS cG;(try clear hb);(try clear hb2);(try clear hk);(try clear hi);have td:KN.cell? ⟨mS,0,none⟩=some (.bool false):=(af jL.out 0).trans rfl;have tj:KN.cell? ⟨mS,1,none⟩=some (.slice none 0 0):=(af jL.out 1).trans rfl;have tq:KN.cell? ⟨mS,2,none⟩=some (.string (⟨#[65]⟩:ByteArray)):=(af jL.out 2).trans rfl;have yw:KN.cell? ⟨mS,3,none⟩=some (.string (⟨#[98,46,99]⟩:ByteArray)):=(af jL.out 3).trans rfl;have yx:KN.cell? ⟨mS,4,none⟩=some (.bool false):=(af jL.out 4).trans rfl;have tu:=aa jL.out 0;have tv:=aa jL.out 1;have tA:=aa jL.out 2;have yz:=aa jL.out 3;have yA:=aa jL.out 4)|((with_reducible refine cQ (N:=24) rfl ?_);(try (refine dS (by rfl) ?_;dsimp only));refine Kd.Zx zN _ 58 ?hg (N:=24) ?hd (xs:=([(⟨(⟨#[83,73,90,69]⟩:ByteArray),(⟨#[57]⟩:ByteArray),true⟩:gw),(⟨(⟨#[66,79,68,89]⟩:ByteArray),(⟨#[]⟩:ByteArray),false⟩:gw)]:List (gw))) (inner:=[.string (⟨#[83,73,90,69]⟩:ByteArray),.string (⟨#[57]⟩:ByteArray),.bool true,.string (⟨#[66,79,68,89]⟩:ByteArray),.string (⟨#[]⟩:ByteArray),.bool false]) (ok:=fun _ =>True) (N1:=fun _ =>True) ?hr ?hp (fun _ hk=>hk) trivial (Below.refl _ _) (Nat.le_refl _) aV ?_;(case hd=>rfl);(case hg=>rfl);(case hr=>first|(go_simp;done)|(go_simp;rfl));(case hp=>exact (ia.c3 (show Kd.M zN _ _ _ (⟨(⟨#[83,73,90,69]⟩:ByteArray),(⟨#[57]⟩:ByteArray),true⟩:gw) [.string (⟨#[83,73,90,69]⟩:ByteArray),.string (⟨#[57]⟩:ByteArray),.bool true] from (Iz _ _ _ (⟨(⟨#[83,73,90,69]⟩:ByteArray),(⟨#[57]⟩:ByteArray),true⟩:gw))) (ia.c3 (show Kd.M zN _ _ _ (⟨(⟨#[66,79,68,89]⟩:ByteArray),(⟨#[]⟩:ByteArray),false⟩:gw) [.string (⟨#[66,79,68,89]⟩:ByteArray),.string (⟨#[]⟩:ByteArray),.bool false] from (Iz _ _ _ (⟨(⟨#[66,79,68,89]⟩:ByteArray),(⟨#[]⟩:ByteArray),false⟩:gw))) (ia.none _ _))));intro amn zO Vz hb hg_ Vy;clear hg_ Vy;(first|rw [← Z4.out] at Vz|(simp only [Int.reduceToNat] at Vz;rw [← Z4.out] at Vz));have bL:=ah.mk (Kd.fB uy hb);have bS:=ah.mk (Kd.kr Vz (fL ow));have cG:=ah.mk (aX (g:=mS) (o:= .cells #[.bool false,.slice none 0 0,.string (⟨#[65]⟩:ByteArray),.string (⟨#[98,46,99]⟩:ByteArray),.bool false] 32 (0,0)) BM hb);have dA:=ah.mk (aC ow hb);clear tQ;clear jL;clear HB;have tQ:=bL;have wj:=bS;have jL:=cG;have HB:=dA;clear bL bS cG dA;clear hb Vz;obtain ⟨amo,amq,aiE⟩:=Kd.fI wj.out;subst aiE)|(go_at_call 16;guard_target=Calls _ _ #[.string (⟨#[109,97,105,108,32,102,114,111,109,58,60,65,64,66,46,99,62,32,115,105,122,101,61,57,32,66,79,68,89]⟩:ByteArray),_] _ _;(refine (bg.calls k1 (⟨#[109,97,105,108,32,102,114,111,109,58,60,65,64,66,46,99,62,32,115,105,122,101,61,57,32,66,79,68,89]⟩:ByteArray) 3 (⟨#[]⟩:ByteArray) false _ _ ([]:List ByteArray) (⟨#[65]⟩:ByteArray) (⟨#[98,46,99]⟩:ByteArray) false _ _ adW true _ ?aW ?bY ?eO ?gP ?jN UR.out).mono ?_);(case aW=>exact Kd.sD _ _);(case bY=>exact Nat.le_refl _);(case eO=>repeat (first|exact (Kd.iy wj.out).2.2|(with_reducible refine Kd.dZ ?_ _)|(with_reducible refine Kd.eo ?_ _)|(with_reducible refine Kd.eZ ?_)));(case gP=>exact (Kd.iy wj.out).2.1);(case jN=>exact aQ.below HG.out ow);rintro e ZT ⟨rfl,hb⟩;have bL:=ah.mk (Kd.fB uy hb);have bS:=ah.mk (Kd.fB Ia hb);have cG:=ah.mk (aX (g:=mS) (o:= .cells #[.bool false,.slice none 0 0,.string (⟨#[65]⟩:ByteArray),.string (⟨#[98,46,99]⟩:ByteArray),.bool false] 32 (0,0)) BM hb);have dA:=ah.mk (aC ow hb);clear tQ;clear wj;clear jL;clear HB;have tQ:=bL;have wj:=bS;have jL:=cG;have HB:=dA;clear bL bS cG dA;(try clear hb);(try clear hb2);(try clear hk);(try clear hi))|(go_at_call 16;guard_target=Calls _ _ #[.string (⟨#[69,72,76,79,32,88,46,121]⟩:ByteArray),_] _ _;(refine (bg.calls k1 (⟨#[69,72,76,79,32,88,46,121]⟩:ByteArray) 2 (⟨#[120,46,121]⟩:ByteArray) false _ _ ([]:List ByteArray) (⟨#[]⟩:ByteArray) (⟨#[]⟩:ByteArray) false _ _ ([]:List (gw)) true _ ?aW ?bY ?eO ?gP ?jN A16.out).mono ?_);(case aW=>exact Kd.sD _ _);(case bY=>exact Nat.le_refl _);(case eO=>exact Kd.sD _ _);(case gP=>exact Nat.le_refl _);(case jN=>exact aQ.below HG.out ow);rintro e w30 ⟨rfl,hb⟩;have bL:=ah.mk (Kd.fB uy hb);have bS:=ah.mk (Kd.fB Ia hb);have cG:=ah.mk (aX (g:=mS) (o:= .cells #[.bool false,.slice none 0 0,.string (⟨#[65]⟩:ByteArray),.string (⟨#[98,46,99]⟩:ByteArray),.bool false] 32 (0,0)) BM hb);have dA:=ah.mk (aC ow hb);clear tQ;clear wj;clear jL;clear HB;have tQ:=bL;have wj:=bS;have jL:=cG;have HB:=dA;clear bL bS cG dA;(try clear hb);(try clear hb2);(try clear hk);(try clear hi))|(go_at_call 16;guard_target=Calls _ _ #[.string (⟨#[78,79,79,80]⟩:ByteArray),_] _ _;(refine (bg.calls k1 (⟨#[78,79,79,80]⟩:ByteArray) 9 (⟨#[]⟩:ByteArray) false _ _ ([]:List ByteArray) (⟨#[]⟩:ByteArray) (⟨#[]⟩:ByteArray) false _ _ ([]:List (gw)) true _ ?aW ?bY ?eO ?gP ?jN A18.out).mono ?_);(case aW=>exact Kd.sD _ _);(case bY=>exact Nat.le_refl _);(case eO=>exact Kd.sD _ _);(case gP=>exact Nat.le_refl _);(case jN=>exact aQ.below HG.out ow);rintro e w31 ⟨rfl,hb⟩;have bL:=ah.mk (Kd.fB uy hb);have bS:=ah.mk (Kd.fB Ia hb);have cG:=ah.mk (aX (g:=mS) (o:= .cells #[.bool false,.slice none 0 0,.string (⟨#[65]⟩:ByteArray),.string (⟨#[98,46,99]⟩:ByteArray),.bool false] 32 (0,0)) BM hb);have dA:=ah.mk (aC ow hb);clear tQ;clear wj;clear jL;clear HB;have tQ:=bL;have wj:=bS;have jL:=cG;have HB:=dA;clear bL bS cG dA;(try clear hb);(try clear hb2);(try clear hk);(try clear hi))|(go_at_call 16;guard_target=Calls _ _ #[.string (⟨#[78,79,79,80,32,97,32,32,98]⟩:ByteArray),_] _ _;(refine (bg.calls k1 (⟨#[78,79,79,80,32,97,32,32,98]⟩:ByteArray) 9 (⟨#[97,32,32,98]⟩:ByteArray) false _ _ ([]:List ByteArray) (⟨#[]⟩:ByteArray) (⟨#[]⟩:ByteArray) false _ _ ([]:List (gw)) qU _ ?aW ?bY ?eO ?gP ?jN nr.out).mono ?_);(case aW=>exact Kd.sD _ _);(case bY=>exact Nat.le_refl _);(case eO=>exact Kd.sD _ _);(case gP=>exact Nat.le_refl _);(case jN=>exact aQ.below HG.out ow);rintro e Fa ⟨rfl,hb⟩;have bL:=ah.mk (Kd.fB uy hb);have bS:=ah.mk (Kd.fB Ia hb);have cG:=ah.mk (aX (g:=mS) (o:= .cells #[.bool false,.slice none 0 0,.string (⟨#[65]⟩:ByteArray),.string (⟨#[98,46,99]⟩:ByteArray),.bool false] 32 (0,0)) BM hb);have dA:=ah.mk (aC ow hb);clear tQ;clear wj;clear jL;clear HB;have tQ:=bL;have wj:=bS;have jL:=cG;have HB:=dA;clear bL bS cG dA;(try clear hb);(try clear hb2);(try clear hk);(try clear hi)))
         go_ret
         exact ⟨cO,ow⟩
        ·replace c19:=Bool.eq_false_iff.mpr c19
         subst c19
         have H1:(none)=some r:=by rw [if_neg (show ¬ (false=true) by decide)] at H;exact H
         clear H
         have H:=H1
         clear H1
         exact absurd H aV
       ·replace c17:=Bool.eq_false_iff.mpr c17
        subst c17
        have H1:(none)=some r:=by rw [if_neg (show ¬ (false=true) by decide)] at H;exact H
        clear H
        have H:=H1
        clear H1
        exact absurd H aV
      ·replace c15:=Bool.eq_false_iff.mpr c15
       subst c15
       have H1:(none)=some r:=by rw [if_neg (show ¬ (false=true) by decide)] at H;exact H
       clear H
       have H:=H1
       clear H1
       exact absurd H aV
     ·replace c13:=Bool.eq_false_iff.mpr c13
      subst c13
      have H1:(none)=some r:=by rw [if_neg (show ¬ (false=true) by decide)] at H;exact H
      clear H
      have H:=H1
      clear H1
      exact absurd H aV
    ·replace c11:=Bool.eq_false_iff.mpr c11
     subst c11
     have H1:(none)=some r:=by rw [if_neg (show ¬ (false=true) by decide)] at H;exact H
     clear H
     have H:=H1
     clear H1
     exact absurd H aV
def j5.f (k:Nat) (a0:ByteArray):Option (Bool):=(eD.f k a0).bind fun SS=>(if SS=true then ((cz.f a0).bind fun Gi=>(some (Gi.toList == a0.toList))) else (some false))
theorem j5.calls (k:Nat) (a0:ByteArray) (r:Bool) (w:World) (hG:aQ w) (h:j5.f k a0=some r):
 Calls Tryz.prog 65 #[.string a0] w fun e w'=>e= .returned (.bool r)∧Below w.heap.size w w':=by
 have HB:=ah.mk (Below.refl w.heap.size w)
 have HG:=ah.mk hG
 clear hG
 have H:((eD.f k a0).bind fun SS=>(if SS=true then ((cz.f a0).bind fun Gi=>(some (Gi.toList == a0.toList))) else (some false)))=some r:=h
 clear h
 replace H:=Option.bind_eq_some_iff.mp H
 obtain ⟨SS,nr,H⟩:=H
 replace H:(if SS=true then ((cz.f a0).bind fun Gi=>(some (Gi.toList == a0.toList))) else (some false))=some r:=H
 have A2:=ah.mk nr
 clear nr
 by_cases c3:SS=true
 ·subst c3
  have H1:((cz.f a0).bind fun Gi=>(some (Gi.toList == a0.toList)))=some r:=by rw [if_pos rfl] at H;exact H
  clear H
  have H:=H1
  clear H1
  replace H:=Option.bind_eq_some_iff.mp H
  obtain ⟨Gi,CC,H⟩:=H
  replace H:(some (Gi.toList == a0.toList))=some r:=H
  have A4:=ah.mk CC
  clear CC
  obtain rfl:=Option.some.inj H
  go_enter Tryz.func65,Tryz.ntmps65
  go_wp2_with (first|((with_reducible refine aU (f:=25) rfl ?_);refine cB (some 4) rfl rfl Tryz.func25 av rfl #[.string a0] rfl cX ?_;(with_reducible refine (eD.calls k a0 true _ ?aW A2.out).mono ?_);(case aW=>exact aQ.below HG.out cw);rintro e w5 ⟨rfl,hb⟩;refine ⟨_,rfl,?_⟩;have bL:=ah.mk (aC cw hb);clear HB;have HB:=bL;clear bL;(try clear hb);(try clear hb2);(try clear hk);(try clear hi))|(go_at_call 81;(with_reducible refine (cz.calls a0 Gi _ A4.out).mono ?_);rintro e w6 ⟨rfl,hb⟩;have bL:=ah.mk (aC cw hb);clear HB;have HB:=bL;clear bL;(try clear hb);(try clear hb2);(try clear hk);(try clear hi)))
  go_ret
  exact ⟨cO,cw⟩
 ·replace c3:=Bool.eq_false_iff.mpr c3
  subst c3
  have H1:(some false)=some r:=by rw [if_neg (show ¬ (false=true) by decide)] at H;exact H
  clear H
  have H:=H1
  clear H1
  obtain rfl:=Option.some.inj H
  go_enter Tryz.func65,Tryz.ntmps65
  go_wp2_with (first|((with_reducible refine aU (f:=25) rfl ?_);refine cB (some 4) rfl rfl Tryz.func25 av rfl #[.string a0] rfl cX ?_;(with_reducible refine (eD.calls k a0 false _ ?aW A2.out).mono ?_);(case aW=>exact aQ.below HG.out cw);rintro e w7 ⟨rfl,hb⟩;refine ⟨_,rfl,?_⟩;have bL:=ah.mk (aC cw hb);clear HB;have HB:=bL;clear bL;(try clear hb);(try clear hb2);(try clear hk);(try clear hi)))
  go_ret
  exact ⟨cO,cw⟩
end Go.Proofs.YtokpnfljjjjikaaGreatDoor.nK
