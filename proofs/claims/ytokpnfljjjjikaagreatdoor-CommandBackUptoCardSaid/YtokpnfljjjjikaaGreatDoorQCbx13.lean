import Derived.Test.YtokpnfljjjjikaaGreatDoorZo
import Derived.Test.YtokpnfljjjjikaaGreatDoorQCbx0
import Derived.Test.YtokpnfljjjjikaaGreatDoorQCbx4
import Derived.Test.YtokpnfljjjjikaaGreatDoorQCbx12
import Derived.Test.YtokpnfljjjjikaaGreatDoorEParse
import Derived.Test.YtokpnfljjjjikaaGreatDoorESmall
import Derived.Test.YtokpnfljjjjikaaGreatDoorWRepsOne
namespace Go.Proofs.YtokpnfljjjjikaaGreatDoor.nX
open Go.RowKit Go.Proofs.aj.bW Go.Proofs.aj.fW Go.Proofs.aj.dz
attribute [local go_sem] jg jh kO kP iK iL ji jk
set_option linter.unusedVariables false
set_option linter.unusedSimpArgs false
def dV.f (k:Nat) (a0:ByteArray) (a1:Int):Option (Bool):=(ak.f k a0).bind fun pW=>(if pW.2.2.2.2.2.2.2.2=a1 then ((aZ.f k pW.1 pW.2.1 pW.2.2.1 pW.2.2.2.1 pW.2.2.2.2.1 pW.2.2.2.2.2.1 pW.2.2.2.2.2.2.1 pW.2.2.2.2.2.2.2.1 0 (⟨#[]⟩:ByteArray) false ([]:List ByteArray) (⟨#[]⟩:ByteArray) (⟨#[]⟩:ByteArray) false ([]:List (gP))).bind fun t270=>(some t270)) else (none))
theorem dV.mono:∀ a0 a1 k,cR (dV.f k a0 a1) (dV.f (k + 1) a0 a1):=by
 intro a0 a1 k
 unfold dV.f
 repeat' first
  |(with_reducible exact ak.mono _ _)
  |(with_reducible exact aZ.mono _ _ _ _ _ _ _ _ _ _ _ _ _ _ _ _ _)
  |(with_reducible exact cR.refl _)
  |(with_reducible exact cR.none _)
  |(with_reducible refine cR.ite ?_ ?_)
  |(with_reducible refine cR.bind ?_ (fun _ =>?_))
  |refine cR.ite ?_ ?_
  |refine cR.bind ?_ (fun _ =>?_)
set_option maxHeartbeats 8000000 in
set_option maxRecDepth 100000 in
theorem dV.calls (k:Nat) (a0:ByteArray) (a1:Int) (r:Bool) (w:World) (hG:aT w) (h:dV.f k a0 a1=some r):
 Calls Tryz.prog 14 #[.string a0,.int .i64 a1] w fun e w'=>e= .returned (.bool r)∧Below w.heap.size w w':=by
 have LP:=Tryz.underlying35
 have HB:=ah.mk (Below.refl w.heap.size w)
 have HG:=ah.mk hG
 clear hG
 have H:((ak.f k a0).bind fun pW=>(if pW.2.2.2.2.2.2.2.2=a1 then ((aZ.f k pW.1 pW.2.1 pW.2.2.1 pW.2.2.2.1 pW.2.2.2.2.1 pW.2.2.2.2.2.1 pW.2.2.2.2.2.2.1 pW.2.2.2.2.2.2.2.1 0 (⟨#[]⟩:ByteArray) false ([]:List ByteArray) (⟨#[]⟩:ByteArray) (⟨#[]⟩:ByteArray) false ([]:List (gP))).bind fun t270=>(some t270)) else (none)))=some r:=h
 clear h
 replace H:=Option.bind_eq_some_iff.mp H
 obtain ⟨⟨t256,t257,t258,t259,t262,t263,t264,t265,t268⟩,wQ,H⟩:=H
 replace H:(if t268=a1 then ((aZ.f k t256 t257 t258 t259 t262 t263 t264 t265 0 (⟨#[]⟩:ByteArray) false ([]:List ByteArray) (⟨#[]⟩:ByteArray) (⟨#[]⟩:ByteArray) false ([]:List (gP))).bind fun t270=>(some t270)) else (none))=some r:=H
 have A3:=ah.mk wQ
 clear wQ
 by_cases c4:t268=a1
 ·rw [if_pos c4] at H
  have oL:(t268 == a1)=true:=beq_iff_eq.mpr c4
  have Gn:(t268 != a1)=false:=bne_eq_false_iff_eq.mpr c4
  clear c4
  replace H:=Option.bind_eq_some_iff.mp H
  obtain ⟨t270,LZ,H⟩:=H
  replace H:(some t270)=some r:=H
  have A5:=ah.mk LZ
  clear LZ
  obtain rfl:=Option.some.inj H
  go_enter Tryz.func14,Tryz.ntmps14
  go_wp2_with (first|((with_reducible refine aN (f:=35) rfl ?_);refine cr (some 9) rfl rfl Tryz.func35 au rfl #[.string a0] rfl cV ?_;(with_reducible refine (ak.calls k a0 t256 t257 t258 t259 t262 t263 t264 t265 t268 _ ?aX A3.out).mono ?_);(case aX=>exact aT.below HG.out cw);rintro e w6 ⟨ark,arl,rfl,ho0,pG,hb⟩;refine ⟨_,rfl,?_⟩;have bD:=ah.mk (Kd.gL ho0 (eu cw));have bN:=ah.mk (Kd.gL pG (eu cw));have cz:=ah.mk (ay cw hb);clear HB;have Cg:=bD;have Ch:=bN;have HB:=cz;clear bD bN cz;(try clear hb);(try clear hb2);(try clear hk);(try clear hi);(try clear ho0);(try clear pG))|((with_reducible refine cG (N:=5) rfl ?_);refine cj ?hg (N:=5) ?hd (cs:=#[.int .u8 0,.string (⟨#[]⟩:ByteArray),.bool false,.slice none 0 0,.string (⟨#[]⟩:ByteArray),.string (⟨#[]⟩:ByteArray),.bool false,.slice none 0 0]) (t:=35) ?hr ?_;(case hd=>rfl);(case hg=>rfl);(case hr=>first|(go_simp;done)|(go_simp;rfl));intro lU hg w7 cJ hb;have bD:=ah.mk (Kd.dL (by (with_reducible repeat (first|apply Kd.gh|apply Kd.gm|apply Kd.iq));exact Cg.out) hb);have bN:=ah.mk (Kd.dL (by (with_reducible repeat (first|apply Kd.gh|apply Kd.gm|apply Kd.iq));exact Ch.out) hb);have cz:=ah.mk (ay cw hb);have cY:=ah.mk (cJ);have jv:=ah.mk ((dK:w.heap.size≤lU));have om:=ah.mk ((dK:w.heap.size≤lU));clear Cg;clear Ch;clear HB;have Cg:=bD;have Ch:=bN;have HB:=cz;have oa:=cY;have apF:=jv;have adQ:=om;clear bD bN cz cY jv om;clear hb cJ hg;have wU:w7.cell? ⟨lU,0,none⟩=some (.int .u8 0):=(af oa.out 0).trans rfl;have wV:w7.cell? ⟨lU,1,none⟩=some (.string (⟨#[]⟩:ByteArray)):=(af oa.out 1).trans rfl;have BO:w7.cell? ⟨lU,2,none⟩=some (.bool false):=(af oa.out 2).trans rfl;have E7:w7.cell? ⟨lU,3,none⟩=some (.slice none 0 0):=(af oa.out 3).trans rfl;have E8:w7.cell? ⟨lU,4,none⟩=some (.string (⟨#[]⟩:ByteArray)):=(af oa.out 4).trans rfl;have acF:w7.cell? ⟨lU,5,none⟩=some (.string (⟨#[]⟩:ByteArray)):=(af oa.out 5).trans rfl;have acG:w7.cell? ⟨lU,6,none⟩=some (.bool false):=(af oa.out 6).trans rfl;have acH:w7.cell? ⟨lU,7,none⟩=some (.slice none 0 0):=(af oa.out 7).trans rfl;have wW:=aa oa.out 0;have wX:=aa oa.out 1;have BP:=aa oa.out 2;have E9:=aa oa.out 3;have Fa:=aa oa.out 4;have acI:=aa oa.out 5;have acJ:=aa oa.out 6;have acK:=aa oa.out 7;obtain ⟨Ao9,co9,eo9⟩:=Kd.eG Cg.out;subst eo9;obtain ⟨abB,WY,anw⟩:=Kd.eG Ch.out;subst anw)|(go_at_call 36;(refine (aZ.calls k t256 t257 t258 _ _ t259 t262 t263 t264 _ _ t265 0 (⟨#[]⟩:ByteArray) false _ _ ([]:List ByteArray) (⟨#[]⟩:ByteArray) (⟨#[]⟩:ByteArray) false _ _ ([]:List (gP)) t270 _ ?aX ?bS ?dH ?eI ?fC ?xj ?xk ?xm A5.out).mono ?_);(case aX=>refine (Kd.fq (e:=9) (base:=w.heap.size) (ok:=fun k_ =>True) (n:=t259.length) (c:=co9) ?_).2.2;exact Uq);(case bS=>exact (Kd.fq Cg.out).2.1);(case dH=>refine (Kd.fq (e:=58) (base:=w.heap.size) (ok:=fun k_ =>True) (n:=t265.length) (c:=WY) ?_).2.2;exact Ur);(case eI=>exact (Kd.fq Ch.out).2.1);(case fC=>exact Kd.yT _ _);(case xj=>exact Nat.le_refl _);(case xk=>exact Kd.yT _ _);(case xm=>exact Nat.le_refl _);rintro e w11 ⟨rfl,hb⟩;have bD:=ah.mk (Kd.dL Uq hb);have bN:=ah.mk (Kd.dL Ur hb);have cz:=ah.mk (aJ (g:=lU) (o:= .cells #[.int .u8 t256,.string t257,.bool t258,.slice Ao9 t259.length co9,.string t262,.string t263,.bool t264,.slice abB t265.length WY] 35 (0,0)) (by (with_reducible repeat (first|refine aM ?_ _|refine bh ?_|refine aU ?_ _));refine cv (cs:=#[.int .u8 t256,.string t257,.bool t258,.slice Ao9 t259.length co9,.string t262,.string t263,.bool t264,.slice none 0 0]) ?_ 7 _ rfl;(with_reducible repeat (first|refine aM ?_ _|refine bh ?_|refine aU ?_ _));refine cv (cs:=#[.int .u8 t256,.string t257,.bool t258,.slice Ao9 t259.length co9,.string t262,.string t263,.bool false,.slice none 0 0]) ?_ 6 _ rfl;(with_reducible repeat (first|refine aM ?_ _|refine bh ?_|refine aU ?_ _));refine cv (cs:=#[.int .u8 t256,.string t257,.bool t258,.slice Ao9 t259.length co9,.string t262,.string (⟨#[]⟩:ByteArray),.bool false,.slice none 0 0]) ?_ 5 _ rfl;(with_reducible repeat (first|refine aM ?_ _|refine bh ?_|refine aU ?_ _));refine cv (cs:=#[.int .u8 t256,.string t257,.bool t258,.slice Ao9 t259.length co9,.string (⟨#[]⟩:ByteArray),.string (⟨#[]⟩:ByteArray),.bool false,.slice none 0 0]) ?_ 4 _ rfl;(with_reducible repeat (first|refine aM ?_ _|refine bh ?_|refine aU ?_ _));refine cv (cs:=#[.int .u8 t256,.string t257,.bool t258,.slice none 0 0,.string (⟨#[]⟩:ByteArray),.string (⟨#[]⟩:ByteArray),.bool false,.slice none 0 0]) ?_ 3 _ rfl;(with_reducible repeat (first|refine aM ?_ _|refine bh ?_|refine aU ?_ _));refine cv (cs:=#[.int .u8 t256,.string t257,.bool false,.slice none 0 0,.string (⟨#[]⟩:ByteArray),.string (⟨#[]⟩:ByteArray),.bool false,.slice none 0 0]) ?_ 2 _ rfl;(with_reducible repeat (first|refine aM ?_ _|refine bh ?_|refine aU ?_ _));refine cv (cs:=#[.int .u8 t256,.string (⟨#[]⟩:ByteArray),.bool false,.slice none 0 0,.string (⟨#[]⟩:ByteArray),.string (⟨#[]⟩:ByteArray),.bool false,.slice none 0 0]) ?_ 1 _ rfl;(with_reducible repeat (first|refine aM ?_ _|refine bh ?_|refine aU ?_ _));refine cv (cs:=#[.int .u8 0,.string (⟨#[]⟩:ByteArray),.bool false,.slice none 0 0,.string (⟨#[]⟩:ByteArray),.string (⟨#[]⟩:ByteArray),.bool false,.slice none 0 0]) ?_ 0 _ rfl;(with_reducible repeat (first|refine aM ?_ _|refine bh ?_|refine aU ?_ _));exact oa.out) hb);have cY:=ah.mk (ay PN hb);clear Cg;clear Ch;clear oa;clear HB;have Cg:=bD;have Ch:=bN;have oa:=cz;have HB:=cY;clear bD bN cz cY;(try clear hb);(try clear hb2);(try clear hk);(try clear hi)))
  go_ret
  exact ⟨cZ,PN⟩
 ·rw [if_neg c4] at H
  exact absurd H bn
def bF.f (k:Nat) (a0:ByteArray) (fX:Int) (jf:ByteArray) (gq:Bool) (iP:List ByteArray) (gu:ByteArray) (jc:ByteArray) (jd:Bool) (gS:List (gP)):Option (Bool):=(ak.f k a0).bind fun pX=>(if pX.2.2.2.2.2.2.2.2=0 then ((aZ.f k pX.1 pX.2.1 pX.2.2.1 pX.2.2.2.1 pX.2.2.2.2.1 pX.2.2.2.2.2.1 pX.2.2.2.2.2.2.1 pX.2.2.2.2.2.2.2.1 fX jf gq iP gu jc jd gS).bind fun Mn=>(some Mn)) else (none))
theorem bF.mono:∀ a0 a1 a2 a3 a4 a5 a6 a7 a8 k,cR (bF.f k a0 a1 a2 a3 a4 a5 a6 a7 a8) (bF.f (k + 1) a0 a1 a2 a3 a4 a5 a6 a7 a8):=by
 intro a0 a1 a2 a3 a4 a5 a6 a7 a8 k
 unfold bF.f
 repeat' first
  |(with_reducible exact ak.mono _ _)
  |(with_reducible exact aZ.mono _ _ _ _ _ _ _ _ _ _ _ _ _ _ _ _ _)
  |(with_reducible exact cR.refl _)
  |(with_reducible exact cR.none _)
  |(with_reducible refine cR.ite ?_ ?_)
  |(with_reducible refine cR.bind ?_ (fun _ =>?_))
  |refine cR.ite ?_ ?_
  |refine cR.bind ?_ (fun _ =>?_)
set_option maxHeartbeats 8000000 in
set_option maxRecDepth 100000 in
theorem bF.calls (k:Nat) (a0:ByteArray) (fX:Int) (jf:ByteArray) (gq:Bool) (oo:Option Addr) (oq:Nat) (iP:List ByteArray) (gu:ByteArray) (jc:ByteArray) (jd:Bool) (ot:Option Addr) (ou:Nat) (gS:List (gP)) (r:Bool) (w:World) (LK:Kd.C Kd.string w oo iP.length iP) (LL:iP.length≤oq) (LM:Kd.C zF w ot gS.length gS) (LN:gS.length≤ou) (hG:aT w) (h:bF.f k a0 fX jf gq iP gu jc jd gS=some r):
 Calls Tryz.prog 16 #[.string a0,.agg #[.int .u8 fX,.string jf,.bool gq,.slice oo iP.length oq,.string gu,.string jc,.bool jd,.slice ot gS.length ou]] w fun e w'=>e= .returned (.bool r)∧Below w.heap.size w w':=by
 have LP:=Tryz.underlying35
 have Cw:=ah.mk LK
 have Cx:=ah.mk LL
 clear LK LL
 have QC:=ah.mk LM
 have aaC:=ah.mk LN
 clear LM LN
 have HB:=ah.mk (Below.refl w.heap.size w)
 have HG:=ah.mk hG
 clear hG
 have H:((ak.f k a0).bind fun pX=>(if pX.2.2.2.2.2.2.2.2=0 then ((aZ.f k pX.1 pX.2.1 pX.2.2.1 pX.2.2.2.1 pX.2.2.2.2.1 pX.2.2.2.2.2.1 pX.2.2.2.2.2.2.1 pX.2.2.2.2.2.2.2.1 fX jf gq iP gu jc jd gS).bind fun Mn=>(some Mn)) else (none)))=some r:=h
 clear h
 replace H:=Option.bind_eq_some_iff.mp H
 obtain ⟨⟨BF,CZ,EK,EL,Ie,Li,NJ,NK,VJ⟩,wQ,H⟩:=H
 replace H:(if VJ=0 then ((aZ.f k BF CZ EK EL Ie Li NJ NK fX jf gq iP gu jc jd gS).bind fun Mn=>(some Mn)) else (none))=some r:=H
 have A3:=ah.mk wQ
 clear wQ
 by_cases c4:VJ=0
 ·rw [if_pos c4] at H
  have oL:(VJ == 0)=true:=beq_iff_eq.mpr c4
  have Gn:(VJ != 0)=false:=bne_eq_false_iff_eq.mpr c4
  clear c4
  replace H:=Option.bind_eq_some_iff.mp H
  obtain ⟨Mn,LZ,H⟩:=H
  replace H:(some Mn)=some r:=H
  have A5:=ah.mk LZ
  clear LZ
  obtain rfl:=Option.some.inj H
  go_enter Tryz.func16,Tryz.ntmps16
  go_wp2_with (first|((with_reducible refine cG (N:=3) rfl ?_);refine cj ?hg (N:=3) ?hd (cs:=#[.int .u8 fX,.string jf,.bool gq,.slice oo iP.length oq,.string gu,.string jc,.bool jd,.slice ot gS.length ou]) (t:=35) ?hr ?_;(case hd=>rfl);(case hg=>rfl);(case hr=>first|(go_simp;done)|(go_simp;rfl));intro rq hg w6 cJ hb;have bD:=ah.mk (ay cw hb);have bN:=ah.mk (cJ);have cz:=ah.mk ((dK:w.heap.size≤rq));have cY:=ah.mk ((dK:w.heap.size≤rq));clear HB;have HB:=bD;have mY:=bN;have apG:=cz;have Uc:=cY;clear bD bN cz cY;clear hb cJ hg)|((with_reducible refine aN (f:=35) rfl ?_);refine cr (some 9) rfl rfl Tryz.func35 au rfl #[.string a0] rfl cV ?_;(with_reducible refine (ak.calls k a0 BF CZ EK EL Ie Li NJ NK VJ _ ?aX A3.out).mono ?_);(case aX=>exact aT.below HG.out EJ);rintro e w7 ⟨aro,arp,rfl,ho0,pG,hb⟩;refine ⟨_,rfl,?_⟩;have bD:=ah.mk (Kd.gL ho0 (eu EJ));have bN:=ah.mk (Kd.gL pG (eu EJ));have cz:=ah.mk (aJ (g:=rq) (o:= .cells #[.int .u8 fX,.string jf,.bool gq,.slice oo iP.length oq,.string gu,.string jc,.bool jd,.slice ot gS.length ou] 35 (0,0)) Ds hb);have cY:=ah.mk (ay EJ hb);clear mY;clear HB;have Ce:=bD;have Cf:=bN;have mY:=cz;have HB:=cY;clear bD bN cz cY;(try clear hb);(try clear hb2);(try clear hk);(try clear hi);(try clear ho0);(try clear pG))|((with_reducible refine cG (N:=5) rfl ?_);refine cj ?hg (N:=5) ?hd (cs:=#[.int .u8 0,.string (⟨#[]⟩:ByteArray),.bool false,.slice none 0 0,.string (⟨#[]⟩:ByteArray),.string (⟨#[]⟩:ByteArray),.bool false,.slice none 0 0]) (t:=35) ?hr ?_;(case hd=>rfl);(case hg=>rfl);(case hr=>first|(go_simp;done)|(go_simp;rfl));intro lB hg w8 cJ hb;have bD:=ah.mk (Kd.dL (by (with_reducible repeat (first|apply Kd.gh|apply Kd.gm|apply Kd.iq));exact Ce.out) hb);have bN:=ah.mk (Kd.dL (by (with_reducible repeat (first|apply Kd.gh|apply Kd.gm|apply Kd.iq));exact Cf.out) hb);have cz:=ah.mk (aJ (g:=rq) (o:= .cells #[.int .u8 fX,.string jf,.bool gq,.slice oo iP.length oq,.string gu,.string jc,.bool jd,.slice ot gS.length ou] 35 (0,0)) Ds hb);have cY:=ah.mk (ay EJ hb);have jv:=ah.mk (cJ);have om:=ah.mk ((PJ:w.heap.size≤lB));have oZ:=ah.mk ((PJ:w.heap.size≤lB));have xg:=ah.mk ((by rw [hg];exact Nat.ne_of_lt (jV (g:=rq) (o:= .cells #[.int .u8 fX,.string jf,.bool gq,.slice oo iP.length oq,.string gu,.string jc,.bool jd,.slice ot gS.length ou] 35 (0,0)) Ds):rq≠lB));have zb:=ah.mk ((by rw [hg];exact Nat.ne_of_gt (jV (g:=rq) (o:= .cells #[.int .u8 fX,.string jf,.bool gq,.slice oo iP.length oq,.string gu,.string jc,.bool jd,.slice ot gS.length ou] 35 (0,0)) Ds):lB≠rq));clear Ce;clear Cf;clear mY;clear HB;have Ce:=bD;have Cf:=bN;have mY:=cz;have HB:=cY;have n9:=jv;have apH:=om;have adO:=oZ;have nO:=xg;have S3:=zb;clear bD bN cz cY jv om oZ xg zb;clear hb cJ hg;have arq:=S3.out;have ars:=nO.out;have J2:w8.cell? ⟨lB,0,none⟩=some (.int .u8 0):=(af n9.out 0).trans rfl;have J3:w8.cell? ⟨lB,1,none⟩=some (.string (⟨#[]⟩:ByteArray)):=(af n9.out 1).trans rfl;have J4:w8.cell? ⟨lB,2,none⟩=some (.bool false):=(af n9.out 2).trans rfl;have YP:w8.cell? ⟨lB,3,none⟩=some (.slice none 0 0):=(af n9.out 3).trans rfl;have YQ:w8.cell? ⟨lB,4,none⟩=some (.string (⟨#[]⟩:ByteArray)):=(af n9.out 4).trans rfl;have aim:w8.cell? ⟨lB,5,none⟩=some (.string (⟨#[]⟩:ByteArray)):=(af n9.out 5).trans rfl;have ain:w8.cell? ⟨lB,6,none⟩=some (.bool false):=(af n9.out 6).trans rfl;have aio:w8.cell? ⟨lB,7,none⟩=some (.slice none 0 0):=(af n9.out 7).trans rfl;have J5:=aa n9.out 0;have J6:=aa n9.out 1;have J7:=aa n9.out 2;have YR:=aa n9.out 3;have YS:=aa n9.out 4;have aip:=aa n9.out 5;have aiq:=aa n9.out 6;have air:=aa n9.out 7;obtain ⟨NI,Lh,anx⟩:=Kd.eG Ce.out;subst anx;obtain ⟨abx,WV,anz⟩:=Kd.eG Cf.out;subst anz;have qC:w8.cell? ⟨rq,0,none⟩=some (.int .u8 fX):=(af mY.out 0).trans rfl;have qD:w8.cell? ⟨rq,1,none⟩=some (.string jf):=(af mY.out 1).trans rfl;have uM:w8.cell? ⟨rq,2,none⟩=some (.bool gq):=(af mY.out 2).trans rfl;have DD:w8.cell? ⟨rq,3,none⟩=some (.slice oo iP.length oq):=(af mY.out 3).trans rfl;have DF:w8.cell? ⟨rq,4,none⟩=some (.string gu):=(af mY.out 4).trans rfl;have ais:w8.cell? ⟨rq,5,none⟩=some (.string jc):=(af mY.out 5).trans rfl;have ait:w8.cell? ⟨rq,6,none⟩=some (.bool jd):=(af mY.out 6).trans rfl;have aiu:w8.cell? ⟨rq,7,none⟩=some (.slice ot gS.length ou):=(af mY.out 7).trans rfl;have qE:=aa mY.out 0;have qF:=aa mY.out 1;have uN:=aa mY.out 2;have DG:=aa mY.out 3;have DI:=aa mY.out 4;have aiv:=aa mY.out 5;have aiw:=aa mY.out 6;have aix:=aa mY.out 7)|(go_at_call 36;(with_reducible refine (aZ.calls k BF CZ EK _ _ EL Ie Li NJ _ _ NK fX jf gq _ _ iP gu jc jd _ _ gS Mn _ ?aX ?bS ?dH ?eI ?fC ?xj ?xk ?xm A5.out).mono ?_);(case aX=>refine (Kd.fq (e:=9) (base:=w.heap.size) (ok:=fun k_ =>True) (n:=EL.length) (c:=Lh) ?_).2.2;exact Ud);(case bS=>exact (Kd.fq Ce.out).2.1);(case dH=>refine (Kd.fq (e:=58) (base:=w.heap.size) (ok:=fun k_ =>True) (n:=NK.length) (c:=WV) ?_).2.2;exact Ue);(case eI=>exact (Kd.fq Cf.out).2.1);(case fC=>exact Kd.cI Cw.out Ij);(case xj=>exact Cx.out);(case xk=>exact Kd.cI QC.out Ij);(case xm=>exact aaC.out);rintro e GU ⟨rfl,hb⟩;have bD:=ah.mk (Kd.dL Ud hb);have bN:=ah.mk (Kd.dL Ue hb);have cz:=ah.mk (aJ (g:=rq) (o:= .cells #[.int .u8 fX,.string jf,.bool gq,.slice oo iP.length oq,.string gu,.string jc,.bool jd,.slice ot gS.length ou] 35 (0,0)) (by (with_reducible repeat (first|refine aM ?_ _|refine bh ?_|refine aU ?_ _));refine gB ?_ nO.out _;(with_reducible repeat (first|refine aM ?_ _|refine bh ?_|refine aU ?_ _));refine gB ?_ nO.out _;(with_reducible repeat (first|refine aM ?_ _|refine bh ?_|refine aU ?_ _));refine gB ?_ nO.out _;(with_reducible repeat (first|refine aM ?_ _|refine bh ?_|refine aU ?_ _));refine gB ?_ nO.out _;(with_reducible repeat (first|refine aM ?_ _|refine bh ?_|refine aU ?_ _));refine gB ?_ nO.out _;(with_reducible repeat (first|refine aM ?_ _|refine bh ?_|refine aU ?_ _));refine gB ?_ nO.out _;(with_reducible repeat (first|refine aM ?_ _|refine bh ?_|refine aU ?_ _));refine gB ?_ nO.out _;(with_reducible repeat (first|refine aM ?_ _|refine bh ?_|refine aU ?_ _));refine gB ?_ nO.out _;(with_reducible repeat (first|refine aM ?_ _|refine bh ?_|refine aU ?_ _));exact mY.out) hb);have cY:=ah.mk (aJ (g:=lB) (o:= .cells #[.int .u8 BF,.string CZ,.bool EK,.slice NI EL.length Lh,.string Ie,.string Li,.bool NJ,.slice abx NK.length WV] 35 (0,0)) (by (with_reducible repeat (first|refine aM ?_ _|refine bh ?_|refine aU ?_ _));refine cv (cs:=#[.int .u8 BF,.string CZ,.bool EK,.slice NI EL.length Lh,.string Ie,.string Li,.bool NJ,.slice none 0 0]) ?_ 7 _ rfl;(with_reducible repeat (first|refine aM ?_ _|refine bh ?_|refine aU ?_ _));refine cv (cs:=#[.int .u8 BF,.string CZ,.bool EK,.slice NI EL.length Lh,.string Ie,.string Li,.bool false,.slice none 0 0]) ?_ 6 _ rfl;(with_reducible repeat (first|refine aM ?_ _|refine bh ?_|refine aU ?_ _));refine cv (cs:=#[.int .u8 BF,.string CZ,.bool EK,.slice NI EL.length Lh,.string Ie,.string (⟨#[]⟩:ByteArray),.bool false,.slice none 0 0]) ?_ 5 _ rfl;(with_reducible repeat (first|refine aM ?_ _|refine bh ?_|refine aU ?_ _));refine cv (cs:=#[.int .u8 BF,.string CZ,.bool EK,.slice NI EL.length Lh,.string (⟨#[]⟩:ByteArray),.string (⟨#[]⟩:ByteArray),.bool false,.slice none 0 0]) ?_ 4 _ rfl;(with_reducible repeat (first|refine aM ?_ _|refine bh ?_|refine aU ?_ _));refine cv (cs:=#[.int .u8 BF,.string CZ,.bool EK,.slice none 0 0,.string (⟨#[]⟩:ByteArray),.string (⟨#[]⟩:ByteArray),.bool false,.slice none 0 0]) ?_ 3 _ rfl;(with_reducible repeat (first|refine aM ?_ _|refine bh ?_|refine aU ?_ _));refine cv (cs:=#[.int .u8 BF,.string CZ,.bool false,.slice none 0 0,.string (⟨#[]⟩:ByteArray),.string (⟨#[]⟩:ByteArray),.bool false,.slice none 0 0]) ?_ 2 _ rfl;(with_reducible repeat (first|refine aM ?_ _|refine bh ?_|refine aU ?_ _));refine cv (cs:=#[.int .u8 BF,.string (⟨#[]⟩:ByteArray),.bool false,.slice none 0 0,.string (⟨#[]⟩:ByteArray),.string (⟨#[]⟩:ByteArray),.bool false,.slice none 0 0]) ?_ 1 _ rfl;(with_reducible repeat (first|refine aM ?_ _|refine bh ?_|refine aU ?_ _));refine cv (cs:=#[.int .u8 0,.string (⟨#[]⟩:ByteArray),.bool false,.slice none 0 0,.string (⟨#[]⟩:ByteArray),.string (⟨#[]⟩:ByteArray),.bool false,.slice none 0 0]) ?_ 0 _ rfl;(with_reducible repeat (first|refine aM ?_ _|refine bh ?_|refine aU ?_ _));exact n9.out) hb);have jv:=ah.mk (ay Ij hb);clear Ce;clear Cf;clear mY;clear n9;clear HB;have Ce:=bD;have Cf:=bN;have mY:=cz;have n9:=cY;have HB:=jv;clear bD bN cz cY jv;(try clear hb);(try clear hb2);(try clear hk);(try clear hi)))
  go_ret
  exact ⟨cZ,Ij⟩
 ·rw [if_neg c4] at H
  exact absurd H bn
def bL.l0:Nat→List ByteArray→Int→Int→Option (Bool)
 | 0,_,_,_ =>none
 |k + 1,x4,x5,x6=>if x6 < x5 then (if 0≤x6 then (if x6 < (x4.length:Int) then ((dV.f k (kC ByteArray.empty x4 x6) 161).bind fun YT=>(if YT=true then (bL.l0 k x4 x5 (wrap64 (x6 + 1))) else (none))) else (none)) else (none)) else ((dV.f k (⟨#[72,69,76,79,120]⟩:ByteArray) 160).bind fun YU=>(if YU=true then ((dV.f k (⟨#[]⟩:ByteArray) 160).bind fun Mo=>(if Mo=true then ((bF.f k (⟨#[109,97,105,108,32,102,114,111,109,58,60,65,64,66,46,99,62,32,115,105,122,101,61,57,32,66,79,68,89]⟩:ByteArray) 3 (⟨#[]⟩:ByteArray) false ([]:List ByteArray) (⟨#[65]⟩:ByteArray) (⟨#[98,46,99]⟩:ByteArray) false (([(⟨(⟨#[83,73,90,69]⟩:ByteArray),(⟨#[57]⟩:ByteArray),true⟩:gP),(⟨(⟨#[66,79,68,89]⟩:ByteArray),(⟨#[]⟩:ByteArray),false⟩:gP)]:List (gP)))).bind fun Bc=>(if Bc=true then ((bF.f k (⟨#[69,72,76,79,32,88,46,121]⟩:ByteArray) 2 (⟨#[120,46,121]⟩:ByteArray) false ([]:List ByteArray) (⟨#[]⟩:ByteArray) (⟨#[]⟩:ByteArray) false ([]:List (gP))).bind fun wD=>(if wD=true then ((bF.f k (⟨#[78,79,79,80]⟩:ByteArray) 9 (⟨#[]⟩:ByteArray) false ([]:List ByteArray) (⟨#[]⟩:ByteArray) (⟨#[]⟩:ByteArray) false ([]:List (gP))).bind fun sN=>(if sN=true then ((bF.f k (⟨#[78,79,79,80,32,97,32,32,98]⟩:ByteArray) 9 (⟨#[97,32,32,98]⟩:ByteArray) false ([]:List ByteArray) (⟨#[]⟩:ByteArray) (⟨#[]⟩:ByteArray) false ([]:List (gP))).bind fun ru=>(some ru)) else (none))) else (none))) else (none))) else (none))) else (none)))
def bL.f (k:Nat):Option (Bool):=(some (([(⟨#[78,79,79,80,32]⟩:ByteArray),(⟨#[77,65,73,76,32,70,82,79,77,58,32,60,62]⟩:ByteArray),(⟨#[68,65,84,65,32,120]⟩:ByteArray),(⟨#[82,67,80,84,32,84,79,58,60,62]⟩:ByteArray),(⟨#[77,65,73,76,32,70,82,79,77,58,60,112,111,115,116,109,97,115,116,101,114,62]⟩:ByteArray)]:List ByteArray):List ByteArray)).bind fun rM=>(bL.l0 k rM (rM.length:Int) 0)
theorem bL.fR:∀ k,(∀ y0 y1 y2,cR (bL.l0 k y0 y1 y2) (bL.l0 (k + 1) y0 y1 y2))
 | 0=>fun _ _ _ r h=>by simp [bL.l0] at h
 |k + 1=>by
  have nY:=bL.fR k
  ·intro y0 y1 y2
   unfold bL.l0
   repeat' first
   |(with_reducible exact nY _ _ _)
   |(with_reducible exact bF.mono _ _ _ _ _ _ _ _ _ _)
   |(with_reducible exact dV.mono _ _ _)
   |(with_reducible exact cR.refl _)
   |(with_reducible exact cR.none _)
   |(with_reducible refine cR.ite ?_ ?_)
   |(with_reducible refine cR.bind ?_ (fun _ =>?_))
   |refine cR.ite ?_ ?_
   |refine cR.bind ?_ (fun _ =>?_)
theorem bL.mono:∀ k,cR (bL.f k) (bL.f (k + 1)):=by
 intro k
 have nY:=bL.fR k
 unfold bL.f
 repeat' first
  |(with_reducible exact nY _ _ _)
  |(with_reducible exact bF.mono _ _ _ _ _ _ _ _ _ _)
  |(with_reducible exact dV.mono _ _ _)
  |(with_reducible exact cR.refl _)
  |(with_reducible exact cR.none _)
  |(with_reducible refine cR.ite ?_ ?_)
  |(with_reducible refine cR.bind ?_ (fun _ =>?_))
  |refine cR.ite ?_ ?_
  |refine cR.bind ?_ (fun _ =>?_)
set_option maxHeartbeats 8000000 in
set_option maxRecDepth 100000 in
theorem bL.calls (k:Nat) (r:Bool) (w:World) (hG:aT w) (h:bL.f k=some r):
 Calls Tryz.prog 15 #[] w fun e w'=>e= .returned (.bool r)∧Below w.heap.size w w':=by
 have LI:=Tryz.underlying30
 have Oi:=Tryz.underlying32
 have U0:=Tryz.underlying58
 have LP:=Tryz.underlying35
 have HB:=ah.mk (Below.refl w.heap.size w)
 have HG:=ah.mk hG
 clear hG
 have H:((some (([(⟨#[78,79,79,80,32]⟩:ByteArray),(⟨#[77,65,73,76,32,70,82,79,77,58,32,60,62]⟩:ByteArray),(⟨#[68,65,84,65,32,120]⟩:ByteArray),(⟨#[82,67,80,84,32,84,79,58,60,62]⟩:ByteArray),(⟨#[77,65,73,76,32,70,82,79,77,58,60,112,111,115,116,109,97,115,116,101,114,62]⟩:ByteArray)]:List ByteArray):List ByteArray)).bind fun rM=>(bL.l0 k rM (rM.length:Int) 0))=some r:=h
 clear h
 obtain ⟨rM,Mp⟩:∃ y_:List ByteArray,y_=(([(⟨#[78,79,79,80,32]⟩:ByteArray),(⟨#[77,65,73,76,32,70,82,79,77,58,32,60,62]⟩:ByteArray),(⟨#[68,65,84,65,32,120]⟩:ByteArray),(⟨#[82,67,80,84,32,84,79,58,60,62]⟩:ByteArray),(⟨#[77,65,73,76,32,70,82,79,77,58,60,112,111,115,116,109,97,115,116,101,114,62]⟩:ByteArray)]:List ByteArray)):=⟨_,rfl⟩
 replace H:(bL.l0 k rM (rM.length:Int) 0)=some r:=by first|(rw [Mp];with_reducible exact H)|(have OB:=(Option.bind_some _ _).symm.trans H;rw [Mp];with_reducible exact OB)|(have OB:=(Option.bind_some _ _).symm.trans H;with_reducible exact OB)|with_reducible exact H|(rw [Mp];exact H)|exact H
 have aaU:=ah.mk Mp
 clear Mp
 have H':=ah.mk H
 clear H
 go_enter Tryz.func15,Tryz.ntmps15
 go_wp2_with (first|((with_reducible refine cG (N:=4) rfl ?_);(try (refine dg (by rfl) ?_;dsimp only));refine Kd.aat Kd.string _ 9 ?hg (N:=4) ?hd (xs:=([(⟨#[78,79,79,80,32]⟩:ByteArray),(⟨#[77,65,73,76,32,70,82,79,77,58,32,60,62]⟩:ByteArray),(⟨#[68,65,84,65,32,120]⟩:ByteArray),(⟨#[82,67,80,84,32,84,79,58,60,62]⟩:ByteArray),(⟨#[77,65,73,76,32,70,82,79,77,58,60,112,111,115,116,109,97,115,116,101,114,62]⟩:ByteArray)]:List ByteArray)) (inner:=[.string (⟨#[78,79,79,80,32]⟩:ByteArray),.string (⟨#[77,65,73,76,32,70,82,79,77,58,32,60,62]⟩:ByteArray),.string (⟨#[68,65,84,65,32,120]⟩:ByteArray),.string (⟨#[82,67,80,84,32,84,79,58,60,62]⟩:ByteArray),.string (⟨#[77,65,73,76,32,70,82,79,77,58,60,112,111,115,116,109,97,115,116,101,114,62]⟩:ByteArray)]) (ok:=fun _ =>True) (N2:=fun _ =>True) ?hr ?hp (fun _ hk=>hk) trivial (Below.refl _ _) (Nat.le_refl _) bn ?_;(case hd=>rfl);(case hg=>rfl);(case hr=>first|(go_simp;done)|(go_simp;rfl));(case hp=>exact (iJ.one (show Kd.M Kd.string _ _ _ (⟨#[78,79,79,80,32]⟩:ByteArray) [.string (⟨#[78,79,79,80,32]⟩:ByteArray)] from rfl) (iJ.one (show Kd.M Kd.string _ _ _ (⟨#[77,65,73,76,32,70,82,79,77,58,32,60,62]⟩:ByteArray) [.string (⟨#[77,65,73,76,32,70,82,79,77,58,32,60,62]⟩:ByteArray)] from rfl) (iJ.one (show Kd.M Kd.string _ _ _ (⟨#[68,65,84,65,32,120]⟩:ByteArray) [.string (⟨#[68,65,84,65,32,120]⟩:ByteArray)] from rfl) (iJ.one (show Kd.M Kd.string _ _ _ (⟨#[82,67,80,84,32,84,79,58,60,62]⟩:ByteArray) [.string (⟨#[82,67,80,84,32,84,79,58,60,62]⟩:ByteArray)] from rfl) (iJ.one (show Kd.M Kd.string _ _ _ (⟨#[77,65,73,76,32,70,82,79,77,58,60,112,111,115,116,109,97,115,116,101,114,62]⟩:ByteArray) [.string (⟨#[77,65,73,76,32,70,82,79,77,58,60,112,111,115,116,109,97,115,116,101,114,62]⟩:ByteArray)] from rfl) (iJ.none _ _)))))));intro art w1 yQ hb hg_ VK;clear hg_ VK;(first|rw [← aaU.out] at yQ|(simp only [Int.reduceToNat] at yQ;rw [← aaU.out] at yQ));have bD:=ah.mk (Kd.gL yQ (eu cw));have bN:=ah.mk (ay cw hb);clear HB;have aaV:=bD;have HB:=bN;clear bD bN;clear hb yQ;obtain ⟨Ao3,co3,eo3⟩:=Kd.eG aaV.out;subst eo3))
 go_loopg [6] k (fun kq v6 w'=>∃ (nD:Int),v6= .int .i64 nD∧ah (bL.l0 kq rM (rM.length:Int) nD=some r)∧ah (kq≤k)∧ah (Kd.R Kd.string 9 w' w.heap.size (fun _ =>True) (.slice Ao3 rM.length co3) rM)∧ah (Below w.heap.size w w'))
 case atStart=>exact ⟨(0),ey,H',⟨Nat.le_refl _⟩,⟨by (with_reducible repeat (first|apply Kd.gh|apply Kd.gm|apply Kd.iq));exact aaV.out⟩,⟨cw⟩⟩
 case round=>
  clear H'
  try clear c1
  try clear p2
  obtain ⟨nD,rfl,HA,uC,tQ,HB⟩:=hrel
  cases gk with
  |zero=>exact absurd HA.out (by simp [bL.l0])
  |succ k1=>
   have H:=HA.out
   clear HA
   simp only [bL.l0] at H
   by_cases c4:nD < (rM.length:Int)
   ·rw [if_pos c4] at H
    have oL:decide (nD < (rM.length:Int))=true:=decide_eq_true c4
    clear c4
    by_cases c5: 0≤nD
    ·rw [if_pos c5] at H
     have tR:decide (0≤nD)=true:=decide_eq_true c5
     clear c5
     by_cases c6:nD < (rM.length:Int)
     ·rw [if_pos c6] at H
      have pF:decide (nD < (rM.length:Int))=true:=decide_eq_true c6
      clear c6
      replace H:=Option.bind_eq_some_iff.mp H
      obtain ⟨YT,GW,H⟩:=H
      replace H:(if YT=true then (bL.l0 k1 rM (rM.length:Int) (wrap64 (nD + 1))) else (none))=some r:=H
      have A7:=ah.mk GW
      clear GW
      by_cases c8:YT=true
      ·subst c8
       have H1:(bL.l0 k1 rM (rM.length:Int) (wrap64 (nD + 1)))=some r:=by rw [if_pos rfl] at H;exact H
       clear H
       have H:=H1
       clear H1
       have H':=ah.mk H
       clear H
       have acL: 0≤(nD:Int):=of_decide_eq_true cX
       have acM:nD < (rM.length:Int):=of_decide_eq_true cX
       obtain ⟨apI,anB,aiy⟩:=Kd.ju (Kd.fq tQ.out).2.2 nD acL acM
       cases anB
       replace acL:=eq_true acL
       replace acM:=eq_true acM
       go_wp2_with (first|((with_reducible refine aN (f:=14) rfl ?_);refine cr (some 11) rfl rfl Tryz.func14 au rfl #[.string (kC ByteArray.empty rM nD),.int .i64 161] rfl cV ?_;(with_reducible refine (dV.calls k1 (kC ByteArray.empty rM nD) 161 true _ ?aX A7.out).mono ?_);(case aX=>exact aT.below HG.out cw);rintro e w9 ⟨rfl,hb⟩;refine ⟨_,rfl,?_⟩;have bD:=ah.mk (Kd.dL uB hb);have bN:=ah.mk (ay cw hb);clear tQ;clear HB;have tQ:=bD;have HB:=bN;clear bD bN;(try clear hb);(try clear hb2);(try clear hk);(try clear hi)))
       go_roundg k1
       case measure=>have:=uC.out;omega
       case rel=>exact ⟨(wrap64 (nD + 1)),ey,H',⟨j6⟩,⟨uB⟩,⟨cw⟩⟩
      ·replace c8:=Bool.eq_false_iff.mpr c8
       subst c8
       have H1:(none)=some r:=by rw [if_neg (show ¬ (false=true) by decide)] at H;exact H
       clear H
       have H:=H1
       clear H1
       exact absurd H bn
     ·rw [if_neg c6] at H
      exact absurd H bn
    ·rw [if_neg c5] at H
     exact absurd H bn
   ·rw [if_neg c4] at H
    have oL:decide (nD < (rM.length:Int))=false:=decide_eq_false c4
    clear c4
    replace H:=Option.bind_eq_some_iff.mp H
    obtain ⟨YU,UT,H⟩:=H
    replace H:(if YU=true then ((dV.f k1 (⟨#[]⟩:ByteArray) 160).bind fun Mo=>(if Mo=true then ((bF.f k1 (⟨#[109,97,105,108,32,102,114,111,109,58,60,65,64,66,46,99,62,32,115,105,122,101,61,57,32,66,79,68,89]⟩:ByteArray) 3 (⟨#[]⟩:ByteArray) false ([]:List ByteArray) (⟨#[65]⟩:ByteArray) (⟨#[98,46,99]⟩:ByteArray) false (([(⟨(⟨#[83,73,90,69]⟩:ByteArray),(⟨#[57]⟩:ByteArray),true⟩:gP),(⟨(⟨#[66,79,68,89]⟩:ByteArray),(⟨#[]⟩:ByteArray),false⟩:gP)]:List (gP)))).bind fun Bc=>(if Bc=true then ((bF.f k1 (⟨#[69,72,76,79,32,88,46,121]⟩:ByteArray) 2 (⟨#[120,46,121]⟩:ByteArray) false ([]:List ByteArray) (⟨#[]⟩:ByteArray) (⟨#[]⟩:ByteArray) false ([]:List (gP))).bind fun wD=>(if wD=true then ((bF.f k1 (⟨#[78,79,79,80]⟩:ByteArray) 9 (⟨#[]⟩:ByteArray) false ([]:List ByteArray) (⟨#[]⟩:ByteArray) (⟨#[]⟩:ByteArray) false ([]:List (gP))).bind fun sN=>(if sN=true then ((bF.f k1 (⟨#[78,79,79,80,32,97,32,32,98]⟩:ByteArray) 9 (⟨#[97,32,32,98]⟩:ByteArray) false ([]:List ByteArray) (⟨#[]⟩:ByteArray) (⟨#[]⟩:ByteArray) false ([]:List (gP))).bind fun ru=>(some ru)) else (none))) else (none))) else (none))) else (none))) else (none))=some r:=H
    have A10:=ah.mk UT
    clear UT
    by_cases c11:YU=true
    ·subst c11
     have H1:((dV.f k1 (⟨#[]⟩:ByteArray) 160).bind fun Mo=>(if Mo=true then ((bF.f k1 (⟨#[109,97,105,108,32,102,114,111,109,58,60,65,64,66,46,99,62,32,115,105,122,101,61,57,32,66,79,68,89]⟩:ByteArray) 3 (⟨#[]⟩:ByteArray) false ([]:List ByteArray) (⟨#[65]⟩:ByteArray) (⟨#[98,46,99]⟩:ByteArray) false (([(⟨(⟨#[83,73,90,69]⟩:ByteArray),(⟨#[57]⟩:ByteArray),true⟩:gP),(⟨(⟨#[66,79,68,89]⟩:ByteArray),(⟨#[]⟩:ByteArray),false⟩:gP)]:List (gP)))).bind fun Bc=>(if Bc=true then ((bF.f k1 (⟨#[69,72,76,79,32,88,46,121]⟩:ByteArray) 2 (⟨#[120,46,121]⟩:ByteArray) false ([]:List ByteArray) (⟨#[]⟩:ByteArray) (⟨#[]⟩:ByteArray) false ([]:List (gP))).bind fun wD=>(if wD=true then ((bF.f k1 (⟨#[78,79,79,80]⟩:ByteArray) 9 (⟨#[]⟩:ByteArray) false ([]:List ByteArray) (⟨#[]⟩:ByteArray) (⟨#[]⟩:ByteArray) false ([]:List (gP))).bind fun sN=>(if sN=true then ((bF.f k1 (⟨#[78,79,79,80,32,97,32,32,98]⟩:ByteArray) 9 (⟨#[97,32,32,98]⟩:ByteArray) false ([]:List ByteArray) (⟨#[]⟩:ByteArray) (⟨#[]⟩:ByteArray) false ([]:List (gP))).bind fun ru=>(some ru)) else (none))) else (none))) else (none))) else (none)))=some r:=by rw [if_pos rfl] at H;exact H
     clear H
     have H:=H1
     clear H1
     replace H:=Option.bind_eq_some_iff.mp H
     obtain ⟨Mo,zW,H⟩:=H
     replace H:(if Mo=true then ((bF.f k1 (⟨#[109,97,105,108,32,102,114,111,109,58,60,65,64,66,46,99,62,32,115,105,122,101,61,57,32,66,79,68,89]⟩:ByteArray) 3 (⟨#[]⟩:ByteArray) false ([]:List ByteArray) (⟨#[65]⟩:ByteArray) (⟨#[98,46,99]⟩:ByteArray) false (([(⟨(⟨#[83,73,90,69]⟩:ByteArray),(⟨#[57]⟩:ByteArray),true⟩:gP),(⟨(⟨#[66,79,68,89]⟩:ByteArray),(⟨#[]⟩:ByteArray),false⟩:gP)]:List (gP)))).bind fun Bc=>(if Bc=true then ((bF.f k1 (⟨#[69,72,76,79,32,88,46,121]⟩:ByteArray) 2 (⟨#[120,46,121]⟩:ByteArray) false ([]:List ByteArray) (⟨#[]⟩:ByteArray) (⟨#[]⟩:ByteArray) false ([]:List (gP))).bind fun wD=>(if wD=true then ((bF.f k1 (⟨#[78,79,79,80]⟩:ByteArray) 9 (⟨#[]⟩:ByteArray) false ([]:List ByteArray) (⟨#[]⟩:ByteArray) (⟨#[]⟩:ByteArray) false ([]:List (gP))).bind fun sN=>(if sN=true then ((bF.f k1 (⟨#[78,79,79,80,32,97,32,32,98]⟩:ByteArray) 9 (⟨#[97,32,32,98]⟩:ByteArray) false ([]:List ByteArray) (⟨#[]⟩:ByteArray) (⟨#[]⟩:ByteArray) false ([]:List (gP))).bind fun ru=>(some ru)) else (none))) else (none))) else (none))) else (none))=some r:=H
     have Gp:=ah.mk zW
     clear zW
     by_cases c13:Mo=true
     ·subst c13
      have H1:((bF.f k1 (⟨#[109,97,105,108,32,102,114,111,109,58,60,65,64,66,46,99,62,32,115,105,122,101,61,57,32,66,79,68,89]⟩:ByteArray) 3 (⟨#[]⟩:ByteArray) false ([]:List ByteArray) (⟨#[65]⟩:ByteArray) (⟨#[98,46,99]⟩:ByteArray) false (([(⟨(⟨#[83,73,90,69]⟩:ByteArray),(⟨#[57]⟩:ByteArray),true⟩:gP),(⟨(⟨#[66,79,68,89]⟩:ByteArray),(⟨#[]⟩:ByteArray),false⟩:gP)]:List (gP)))).bind fun Bc=>(if Bc=true then ((bF.f k1 (⟨#[69,72,76,79,32,88,46,121]⟩:ByteArray) 2 (⟨#[120,46,121]⟩:ByteArray) false ([]:List ByteArray) (⟨#[]⟩:ByteArray) (⟨#[]⟩:ByteArray) false ([]:List (gP))).bind fun wD=>(if wD=true then ((bF.f k1 (⟨#[78,79,79,80]⟩:ByteArray) 9 (⟨#[]⟩:ByteArray) false ([]:List ByteArray) (⟨#[]⟩:ByteArray) (⟨#[]⟩:ByteArray) false ([]:List (gP))).bind fun sN=>(if sN=true then ((bF.f k1 (⟨#[78,79,79,80,32,97,32,32,98]⟩:ByteArray) 9 (⟨#[97,32,32,98]⟩:ByteArray) false ([]:List ByteArray) (⟨#[]⟩:ByteArray) (⟨#[]⟩:ByteArray) false ([]:List (gP))).bind fun ru=>(some ru)) else (none))) else (none))) else (none)))=some r:=by rw [if_pos rfl] at H;exact H
      clear H
      have H:=H1
      clear H1
      obtain ⟨ae8,Mq⟩:∃ y_:List (gP),y_=(([(⟨(⟨#[83,73,90,69]⟩:ByteArray),(⟨#[57]⟩:ByteArray),true⟩:gP),(⟨(⟨#[66,79,68,89]⟩:ByteArray),(⟨#[]⟩:ByteArray),false⟩:gP)]:List (gP))):=⟨_,rfl⟩
      replace H:((bF.f k1 (⟨#[109,97,105,108,32,102,114,111,109,58,60,65,64,66,46,99,62,32,115,105,122,101,61,57,32,66,79,68,89]⟩:ByteArray) 3 (⟨#[]⟩:ByteArray) false ([]:List ByteArray) (⟨#[65]⟩:ByteArray) (⟨#[98,46,99]⟩:ByteArray) false ae8).bind fun Bc=>(if Bc=true then ((bF.f k1 (⟨#[69,72,76,79,32,88,46,121]⟩:ByteArray) 2 (⟨#[120,46,121]⟩:ByteArray) false ([]:List ByteArray) (⟨#[]⟩:ByteArray) (⟨#[]⟩:ByteArray) false ([]:List (gP))).bind fun wD=>(if wD=true then ((bF.f k1 (⟨#[78,79,79,80]⟩:ByteArray) 9 (⟨#[]⟩:ByteArray) false ([]:List ByteArray) (⟨#[]⟩:ByteArray) (⟨#[]⟩:ByteArray) false ([]:List (gP))).bind fun sN=>(if sN=true then ((bF.f k1 (⟨#[78,79,79,80,32,97,32,32,98]⟩:ByteArray) 9 (⟨#[97,32,32,98]⟩:ByteArray) false ([]:List ByteArray) (⟨#[]⟩:ByteArray) (⟨#[]⟩:ByteArray) false ([]:List (gP))).bind fun ru=>(some ru)) else (none))) else (none))) else (none)))=some r:=by first|(rw [Mq];with_reducible exact H)|(have OB:=(Option.bind_some _ _).symm.trans H;rw [Mq];with_reducible exact OB)|(have OB:=(Option.bind_some _ _).symm.trans H;with_reducible exact OB)|with_reducible exact H|(rw [Mq];exact H)|exact H
      have aaW:=ah.mk Mq
      clear Mq
      replace H:=Option.bind_eq_some_iff.mp H
      obtain ⟨Bc,wS,H⟩:=H
      replace H:(if Bc=true then ((bF.f k1 (⟨#[69,72,76,79,32,88,46,121]⟩:ByteArray) 2 (⟨#[120,46,121]⟩:ByteArray) false ([]:List ByteArray) (⟨#[]⟩:ByteArray) (⟨#[]⟩:ByteArray) false ([]:List (gP))).bind fun wD=>(if wD=true then ((bF.f k1 (⟨#[78,79,79,80]⟩:ByteArray) 9 (⟨#[]⟩:ByteArray) false ([]:List ByteArray) (⟨#[]⟩:ByteArray) (⟨#[]⟩:ByteArray) false ([]:List (gP))).bind fun sN=>(if sN=true then ((bF.f k1 (⟨#[78,79,79,80,32,97,32,32,98]⟩:ByteArray) 9 (⟨#[97,32,32,98]⟩:ByteArray) false ([]:List ByteArray) (⟨#[]⟩:ByteArray) (⟨#[]⟩:ByteArray) false ([]:List (gP))).bind fun ru=>(some ru)) else (none))) else (none))) else (none))=some r:=H
      have SZ:=ah.mk wS
      clear wS
      by_cases c15:Bc=true
      ·subst c15
       have H1:((bF.f k1 (⟨#[69,72,76,79,32,88,46,121]⟩:ByteArray) 2 (⟨#[120,46,121]⟩:ByteArray) false ([]:List ByteArray) (⟨#[]⟩:ByteArray) (⟨#[]⟩:ByteArray) false ([]:List (gP))).bind fun wD=>(if wD=true then ((bF.f k1 (⟨#[78,79,79,80]⟩:ByteArray) 9 (⟨#[]⟩:ByteArray) false ([]:List ByteArray) (⟨#[]⟩:ByteArray) (⟨#[]⟩:ByteArray) false ([]:List (gP))).bind fun sN=>(if sN=true then ((bF.f k1 (⟨#[78,79,79,80,32,97,32,32,98]⟩:ByteArray) 9 (⟨#[97,32,32,98]⟩:ByteArray) false ([]:List ByteArray) (⟨#[]⟩:ByteArray) (⟨#[]⟩:ByteArray) false ([]:List (gP))).bind fun ru=>(some ru)) else (none))) else (none)))=some r:=by rw [if_pos rfl] at H;exact H
       clear H
       have H:=H1
       clear H1
       replace H:=Option.bind_eq_some_iff.mp H
       obtain ⟨wD,Mk,H⟩:=H
       replace H:(if wD=true then ((bF.f k1 (⟨#[78,79,79,80]⟩:ByteArray) 9 (⟨#[]⟩:ByteArray) false ([]:List ByteArray) (⟨#[]⟩:ByteArray) (⟨#[]⟩:ByteArray) false ([]:List (gP))).bind fun sN=>(if sN=true then ((bF.f k1 (⟨#[78,79,79,80,32,97,32,32,98]⟩:ByteArray) 9 (⟨#[97,32,32,98]⟩:ByteArray) false ([]:List ByteArray) (⟨#[]⟩:ByteArray) (⟨#[]⟩:ByteArray) false ([]:List (gP))).bind fun ru=>(some ru)) else (none))) else (none))=some r:=H
       have A16:=ah.mk Mk
       clear Mk
       by_cases c17:wD=true
       ·subst c17
        have H1:((bF.f k1 (⟨#[78,79,79,80]⟩:ByteArray) 9 (⟨#[]⟩:ByteArray) false ([]:List ByteArray) (⟨#[]⟩:ByteArray) (⟨#[]⟩:ByteArray) false ([]:List (gP))).bind fun sN=>(if sN=true then ((bF.f k1 (⟨#[78,79,79,80,32,97,32,32,98]⟩:ByteArray) 9 (⟨#[97,32,32,98]⟩:ByteArray) false ([]:List ByteArray) (⟨#[]⟩:ByteArray) (⟨#[]⟩:ByteArray) false ([]:List (gP))).bind fun ru=>(some ru)) else (none)))=some r:=by rw [if_pos rfl] at H;exact H
        clear H
        have H:=H1
        clear H1
        replace H:=Option.bind_eq_some_iff.mp H
        obtain ⟨sN,Vj,H⟩:=H
        replace H:(if sN=true then ((bF.f k1 (⟨#[78,79,79,80,32,97,32,32,98]⟩:ByteArray) 9 (⟨#[97,32,32,98]⟩:ByteArray) false ([]:List ByteArray) (⟨#[]⟩:ByteArray) (⟨#[]⟩:ByteArray) false ([]:List (gP))).bind fun ru=>(some ru)) else (none))=some r:=H
        have A18:=ah.mk Vj
        clear Vj
        by_cases c19:sN=true
        ·subst c19
         have H1:((bF.f k1 (⟨#[78,79,79,80,32,97,32,32,98]⟩:ByteArray) 9 (⟨#[97,32,32,98]⟩:ByteArray) false ([]:List ByteArray) (⟨#[]⟩:ByteArray) (⟨#[]⟩:ByteArray) false ([]:List (gP))).bind fun ru=>(some ru))=some r:=by rw [if_pos rfl] at H;exact H
         clear H
         have H:=H1
         clear H1
         replace H:=Option.bind_eq_some_iff.mp H
         obtain ⟨ru,VD,H⟩:=H
         replace H:(some ru)=some r:=H
         have nK:=ah.mk VD
         clear VD
         obtain rfl:=Option.some.inj H
         go_wp2_with (first|((with_reducible refine cG (N:=3) rfl ?_);(try (refine dg (by rfl) ?_;dsimp only));refine cj ?hg (N:=3) ?hd (cs:=#[.bool false,.slice none 0 0,.string (⟨#[]⟩:ByteArray),.string (⟨#[]⟩:ByteArray),.bool false]) (t:=32) ?hr ?_;(case hd=>rfl);(case hg=>rfl);(case hr=>first|(go_simp;done)|(go_simp;rfl));intro nv hg C8 cJ hb;have bD:=ah.mk (Kd.dL uB hb);have bN:=ah.mk (ay cw hb);have cz:=ah.mk (cJ);have cY:=ah.mk ((dK:w.heap.size≤nv));have jv:=ah.mk ((dK:w.heap.size≤nv));clear tQ;clear HB;have tQ:=bD;have HB:=bN;have jS:=cz;have apJ:=cY;have adJ:=jv;clear bD bN cz cY jv;clear hb cJ hg;have yj:C8.cell? ⟨nv,0,none⟩=some (.bool false):=(af jS.out 0).trans rfl;have yl:C8.cell? ⟨nv,1,none⟩=some (.slice none 0 0):=(af jS.out 1).trans rfl;have Aj:C8.cell? ⟨nv,2,none⟩=some (.string (⟨#[]⟩:ByteArray)):=(af jS.out 2).trans rfl;have JC:C8.cell? ⟨nv,3,none⟩=some (.string (⟨#[]⟩:ByteArray)):=(af jS.out 3).trans rfl;have JD:C8.cell? ⟨nv,4,none⟩=some (.bool false):=(af jS.out 4).trans rfl;have ym:=aa jS.out 0;have yq:=aa jS.out 1;have Ak:=aa jS.out 2;have JE:=aa jS.out 3;have JF:=aa jS.out 4)|((with_reducible refine aN (f:=14) rfl ?_);refine cr (some 16) rfl rfl Tryz.func14 au rfl #[.string (⟨#[72,69,76,79,120]⟩:ByteArray),.int .i64 160] rfl cV ?_;(with_reducible refine (dV.calls k1 (⟨#[72,69,76,79,120]⟩:ByteArray) 160 true _ ?aX A10.out).mono ?_);(case aX=>exact aT.below HG.out oJ);rintro e Mb ⟨rfl,hb⟩;refine ⟨_,rfl,?_⟩;have bD:=ah.mk (Kd.dL (by (with_reducible repeat (first|apply Kd.gh|apply Kd.gm|apply Kd.iq));exact (Kd.gi (Kd.cH (p:=⟨nv,4,none⟩) (Kd.cH (p:=⟨nv,3,none⟩) (Kd.cH (p:=⟨nv,2,none⟩) (Kd.cH (p:=⟨nv,1,none⟩) (Kd.cH (p:=⟨nv,0,none⟩) (Kd.j4 tQ.out jS.out bR) (fun _ hk=>hk.2) (.bool false)) (fun _ hk=>hk.2) (.slice none 0 0)) (fun _ hk=>hk.2) (.string (⟨#[65]⟩:ByteArray))) (fun _ hk=>hk.2) (.string (⟨#[98,46,99]⟩:ByteArray))) (fun _ hk=>hk.2) (.bool false)) (fun _ h_ =>h_.1))) hb);have bN:=ah.mk (aJ (g:=nv) (o:= .cells #[.bool false,.slice none 0 0,.string (⟨#[65]⟩:ByteArray),.string (⟨#[98,46,99]⟩:ByteArray),.bool false] 32 (0,0)) (by (with_reducible repeat (first|refine aM ?_ _|refine bh ?_|refine aU ?_ _));refine cv (cs:=#[.bool false,.slice none 0 0,.string (⟨#[65]⟩:ByteArray),.string (⟨#[98,46,99]⟩:ByteArray),.bool false]) ?_ 4 _ rfl;(with_reducible repeat (first|refine aM ?_ _|refine bh ?_|refine aU ?_ _));refine cv (cs:=#[.bool false,.slice none 0 0,.string (⟨#[65]⟩:ByteArray),.string (⟨#[]⟩:ByteArray),.bool false]) ?_ 3 _ rfl;(with_reducible repeat (first|refine aM ?_ _|refine bh ?_|refine aU ?_ _));refine cv (cs:=#[.bool false,.slice none 0 0,.string (⟨#[]⟩:ByteArray),.string (⟨#[]⟩:ByteArray),.bool false]) ?_ 2 _ rfl;(with_reducible repeat (first|refine aM ?_ _|refine bh ?_|refine aU ?_ _));refine cv (cs:=#[.bool false,.slice none 0 0,.string (⟨#[]⟩:ByteArray),.string (⟨#[]⟩:ByteArray),.bool false]) ?_ 1 _ rfl;(with_reducible repeat (first|refine aM ?_ _|refine bh ?_|refine aU ?_ _));refine cv (cs:=#[.bool false,.slice none 0 0,.string (⟨#[]⟩:ByteArray),.string (⟨#[]⟩:ByteArray),.bool false]) ?_ 0 _ rfl;(with_reducible repeat (first|refine aM ?_ _|refine bh ?_|refine aU ?_ _));exact jS.out) hb);have cz:=ah.mk (ay oJ hb);clear tQ;clear jS;clear HB;have tQ:=bD;have jS:=bN;have HB:=cz;clear bD bN cz;(try clear hb);(try clear hb2);(try clear hk);(try clear hi))|(go_at_call 14;(with_reducible refine (dV.calls k1 (⟨#[]⟩:ByteArray) 160 true _ ?aX Gp.out).mono ?_);(case aX=>exact aT.below HG.out oJ);rintro e KB ⟨rfl,hb⟩;have bD:=ah.mk (Kd.dL uB hb);have bN:=ah.mk (aJ (g:=nv) (o:= .cells #[.bool false,.slice none 0 0,.string (⟨#[65]⟩:ByteArray),.string (⟨#[98,46,99]⟩:ByteArray),.bool false] 32 (0,0)) BH hb);have cz:=ah.mk (ay oJ hb);clear tQ;clear jS;clear HB;have tQ:=bD;have jS:=bN;have HB:=cz;clear bD bN cz;(try clear hb);(try clear hb2);(try clear hk);(try clear hi);have tD:KB.cell? ⟨nv,0,none⟩=some (.bool false):=(af jS.out 0).trans rfl;have tE:KB.cell? ⟨nv,1,none⟩=some (.slice none 0 0):=(af jS.out 1).trans rfl;have tF:KB.cell? ⟨nv,2,none⟩=some (.string (⟨#[65]⟩:ByteArray)):=(af jS.out 2).trans rfl;have yz:KB.cell? ⟨nv,3,none⟩=some (.string (⟨#[98,46,99]⟩:ByteArray)):=(af jS.out 3).trans rfl;have yA:KB.cell? ⟨nv,4,none⟩=some (.bool false):=(af jS.out 4).trans rfl;have tG:=aa jS.out 0;have tH:=aa jS.out 1;have tI:=aa jS.out 2;have yB:=aa jS.out 3;have yC:=aa jS.out 4)|((with_reducible refine cG (N:=24) rfl ?_);(try (refine dg (by rfl) ?_;dsimp only));refine Kd.aat zF _ 58 ?hg (N:=24) ?hd (xs:=([(⟨(⟨#[83,73,90,69]⟩:ByteArray),(⟨#[57]⟩:ByteArray),true⟩:gP),(⟨(⟨#[66,79,68,89]⟩:ByteArray),(⟨#[]⟩:ByteArray),false⟩:gP)]:List (gP))) (inner:=[.string (⟨#[83,73,90,69]⟩:ByteArray),.string (⟨#[57]⟩:ByteArray),.bool true,.string (⟨#[66,79,68,89]⟩:ByteArray),.string (⟨#[]⟩:ByteArray),.bool false]) (ok:=fun _ =>True) (N2:=fun _ =>True) ?hr ?hp (fun _ hk=>hk) trivial (Below.refl _ _) (Nat.le_refl _) bn ?_;(case hd=>rfl);(case hg=>rfl);(case hr=>first|(go_simp;done)|(go_simp;rfl));(case hp=>exact (iJ.c3 (show Kd.M zF _ _ _ (⟨(⟨#[83,73,90,69]⟩:ByteArray),(⟨#[57]⟩:ByteArray),true⟩:gP) [.string (⟨#[83,73,90,69]⟩:ByteArray),.string (⟨#[57]⟩:ByteArray),.bool true] from (IJ _ _ _ (⟨(⟨#[83,73,90,69]⟩:ByteArray),(⟨#[57]⟩:ByteArray),true⟩:gP))) (iJ.c3 (show Kd.M zF _ _ _ (⟨(⟨#[66,79,68,89]⟩:ByteArray),(⟨#[]⟩:ByteArray),false⟩:gP) [.string (⟨#[66,79,68,89]⟩:ByteArray),.string (⟨#[]⟩:ByteArray),.bool false] from (IJ _ _ _ (⟨(⟨#[66,79,68,89]⟩:ByteArray),(⟨#[]⟩:ByteArray),false⟩:gP))) (iJ.none _ _))));intro arx zG VL hb hg_ VK;clear hg_ VK;(first|rw [← aaW.out] at VL|(simp only [Int.reduceToNat] at VL;rw [← aaW.out] at VL));have bD:=ah.mk (Kd.dL uB hb);have bN:=ah.mk (Kd.gL VL (eu oJ));have cz:=ah.mk (aJ (g:=nv) (o:= .cells #[.bool false,.slice none 0 0,.string (⟨#[65]⟩:ByteArray),.string (⟨#[98,46,99]⟩:ByteArray),.bool false] 32 (0,0)) BH hb);have cY:=ah.mk (ay oJ hb);clear tQ;clear jS;clear HB;have tQ:=bD;have wu:=bN;have jS:=cz;have HB:=cY;clear bD bN cz cY;clear hb VL;obtain ⟨ary,arz,anC⟩:=Kd.eG wu.out;subst anC)|(go_at_call 16;guard_target=Calls _ _ #[.string (⟨#[109,97,105,108,32,102,114,111,109,58,60,65,64,66,46,99,62,32,115,105,122,101,61,57,32,66,79,68,89]⟩:ByteArray),_] _ _;(refine (bF.calls k1 (⟨#[109,97,105,108,32,102,114,111,109,58,60,65,64,66,46,99,62,32,115,105,122,101,61,57,32,66,79,68,89]⟩:ByteArray) 3 (⟨#[]⟩:ByteArray) false _ _ ([]:List ByteArray) (⟨#[65]⟩:ByteArray) (⟨#[98,46,99]⟩:ByteArray) false _ _ ae8 true _ ?aX ?bS ?dH ?eI ?fC SZ.out).mono ?_);(case aX=>exact Kd.yT _ _);(case bS=>exact Nat.le_refl _);(case dH=>repeat (first|exact (Kd.fq wu.out).2.2|(with_reducible refine Kd.cK ?_ _)|(with_reducible refine Kd.cL ?_ _)|(with_reducible refine Kd.dG ?_)));(case eI=>exact (Kd.fq wu.out).2.1);(case fC=>exact aT.below HG.out oJ);rintro e X0 ⟨rfl,hb⟩;have bD:=ah.mk (Kd.dL uB hb);have bN:=ah.mk (Kd.dL Du hb);have cz:=ah.mk (aJ (g:=nv) (o:= .cells #[.bool false,.slice none 0 0,.string (⟨#[65]⟩:ByteArray),.string (⟨#[98,46,99]⟩:ByteArray),.bool false] 32 (0,0)) BH hb);have cY:=ah.mk (ay oJ hb);clear tQ;clear wu;clear jS;clear HB;have tQ:=bD;have wu:=bN;have jS:=cz;have HB:=cY;clear bD bN cz cY;(try clear hb);(try clear hb2);(try clear hk);(try clear hi))|(go_at_call 16;guard_target=Calls _ _ #[.string (⟨#[69,72,76,79,32,88,46,121]⟩:ByteArray),_] _ _;(refine (bF.calls k1 (⟨#[69,72,76,79,32,88,46,121]⟩:ByteArray) 2 (⟨#[120,46,121]⟩:ByteArray) false _ _ ([]:List ByteArray) (⟨#[]⟩:ByteArray) (⟨#[]⟩:ByteArray) false _ _ ([]:List (gP)) true _ ?aX ?bS ?dH ?eI ?fC A16.out).mono ?_);(case aX=>exact Kd.yT _ _);(case bS=>exact Nat.le_refl _);(case dH=>exact Kd.yT _ _);(case eI=>exact Nat.le_refl _);(case fC=>exact aT.below HG.out oJ);rintro e w30 ⟨rfl,hb⟩;have bD:=ah.mk (Kd.dL uB hb);have bN:=ah.mk (Kd.dL Du hb);have cz:=ah.mk (aJ (g:=nv) (o:= .cells #[.bool false,.slice none 0 0,.string (⟨#[65]⟩:ByteArray),.string (⟨#[98,46,99]⟩:ByteArray),.bool false] 32 (0,0)) BH hb);have cY:=ah.mk (ay oJ hb);clear tQ;clear wu;clear jS;clear HB;have tQ:=bD;have wu:=bN;have jS:=cz;have HB:=cY;clear bD bN cz cY;(try clear hb);(try clear hb2);(try clear hk);(try clear hi))|(go_at_call 16;guard_target=Calls _ _ #[.string (⟨#[78,79,79,80]⟩:ByteArray),_] _ _;(refine (bF.calls k1 (⟨#[78,79,79,80]⟩:ByteArray) 9 (⟨#[]⟩:ByteArray) false _ _ ([]:List ByteArray) (⟨#[]⟩:ByteArray) (⟨#[]⟩:ByteArray) false _ _ ([]:List (gP)) true _ ?aX ?bS ?dH ?eI ?fC A18.out).mono ?_);(case aX=>exact Kd.yT _ _);(case bS=>exact Nat.le_refl _);(case dH=>exact Kd.yT _ _);(case eI=>exact Nat.le_refl _);(case fC=>exact aT.below HG.out oJ);rintro e NB ⟨rfl,hb⟩;have bD:=ah.mk (Kd.dL uB hb);have bN:=ah.mk (Kd.dL Du hb);have cz:=ah.mk (aJ (g:=nv) (o:= .cells #[.bool false,.slice none 0 0,.string (⟨#[65]⟩:ByteArray),.string (⟨#[98,46,99]⟩:ByteArray),.bool false] 32 (0,0)) BH hb);have cY:=ah.mk (ay oJ hb);clear tQ;clear wu;clear jS;clear HB;have tQ:=bD;have wu:=bN;have jS:=cz;have HB:=cY;clear bD bN cz cY;(try clear hb);(try clear hb2);(try clear hk);(try clear hi))|(go_at_call 16;guard_target=Calls _ _ #[.string (⟨#[78,79,79,80,32,97,32,32,98]⟩:ByteArray),_] _ _;(refine (bF.calls k1 (⟨#[78,79,79,80,32,97,32,32,98]⟩:ByteArray) 9 (⟨#[97,32,32,98]⟩:ByteArray) false _ _ ([]:List ByteArray) (⟨#[]⟩:ByteArray) (⟨#[]⟩:ByteArray) false _ _ ([]:List (gP)) ru _ ?aX ?bS ?dH ?eI ?fC nK.out).mono ?_);(case aX=>exact Kd.yT _ _);(case bS=>exact Nat.le_refl _);(case dH=>exact Kd.yT _ _);(case eI=>exact Nat.le_refl _);(case fC=>exact aT.below HG.out oJ);rintro e Fl ⟨rfl,hb⟩;have bD:=ah.mk (Kd.dL uB hb);have bN:=ah.mk (Kd.dL Du hb);have cz:=ah.mk (aJ (g:=nv) (o:= .cells #[.bool false,.slice none 0 0,.string (⟨#[65]⟩:ByteArray),.string (⟨#[98,46,99]⟩:ByteArray),.bool false] 32 (0,0)) BH hb);have cY:=ah.mk (ay oJ hb);clear tQ;clear wu;clear jS;clear HB;have tQ:=bD;have wu:=bN;have jS:=cz;have HB:=cY;clear bD bN cz cY;(try clear hb);(try clear hb2);(try clear hk);(try clear hi)))
         go_ret
         exact ⟨cZ,oJ⟩
        ·replace c19:=Bool.eq_false_iff.mpr c19
         subst c19
         have H1:(none)=some r:=by rw [if_neg (show ¬ (false=true) by decide)] at H;exact H
         clear H
         have H:=H1
         clear H1
         exact absurd H bn
       ·replace c17:=Bool.eq_false_iff.mpr c17
        subst c17
        have H1:(none)=some r:=by rw [if_neg (show ¬ (false=true) by decide)] at H;exact H
        clear H
        have H:=H1
        clear H1
        exact absurd H bn
      ·replace c15:=Bool.eq_false_iff.mpr c15
       subst c15
       have H1:(none)=some r:=by rw [if_neg (show ¬ (false=true) by decide)] at H;exact H
       clear H
       have H:=H1
       clear H1
       exact absurd H bn
     ·replace c13:=Bool.eq_false_iff.mpr c13
      subst c13
      have H1:(none)=some r:=by rw [if_neg (show ¬ (false=true) by decide)] at H;exact H
      clear H
      have H:=H1
      clear H1
      exact absurd H bn
    ·replace c11:=Bool.eq_false_iff.mpr c11
     subst c11
     have H1:(none)=some r:=by rw [if_neg (show ¬ (false=true) by decide)] at H;exact H
     clear H
     have H:=H1
     clear H1
     exact absurd H bn
def kG.f (k:Nat) (a0:ByteArray):Option (Bool):=(fk.f k a0).bind fun S4=>(if S4=true then ((cC.f a0).bind fun Gu=>(some (Gu.toList == a0.toList))) else (some false))
set_option maxHeartbeats 8000000 in
set_option maxRecDepth 100000 in
theorem kG.calls (k:Nat) (a0:ByteArray) (r:Bool) (w:World) (hG:aT w) (h:kG.f k a0=some r):
 Calls Tryz.prog 65 #[.string a0] w fun e w'=>e= .returned (.bool r)∧Below w.heap.size w w':=by
 have HB:=ah.mk (Below.refl w.heap.size w)
 have HG:=ah.mk hG
 clear hG
 have H:((fk.f k a0).bind fun S4=>(if S4=true then ((cC.f a0).bind fun Gu=>(some (Gu.toList == a0.toList))) else (some false)))=some r:=h
 clear h
 replace H:=Option.bind_eq_some_iff.mp H
 obtain ⟨S4,nK,H⟩:=H
 replace H:(if S4=true then ((cC.f a0).bind fun Gu=>(some (Gu.toList == a0.toList))) else (some false))=some r:=H
 have A2:=ah.mk nK
 clear nK
 by_cases c3:S4=true
 ·subst c3
  have H1:((cC.f a0).bind fun Gu=>(some (Gu.toList == a0.toList)))=some r:=by rw [if_pos rfl] at H;exact H
  clear H
  have H:=H1
  clear H1
  replace H:=Option.bind_eq_some_iff.mp H
  obtain ⟨Gu,Cr,H⟩:=H
  replace H:(some (Gu.toList == a0.toList))=some r:=H
  have A4:=ah.mk Cr
  clear Cr
  obtain rfl:=Option.some.inj H
  go_enter Tryz.func65,Tryz.ntmps65
  go_wp2_with (first|((with_reducible refine aN (f:=25) rfl ?_);refine cr (some 4) rfl rfl Tryz.func25 au rfl #[.string a0] rfl cV ?_;(with_reducible refine (fk.calls k a0 true _ ?aX A2.out).mono ?_);(case aX=>exact aT.below HG.out cw);rintro e w5 ⟨rfl,hb⟩;refine ⟨_,rfl,?_⟩;have bD:=ah.mk (ay cw hb);clear HB;have HB:=bD;clear bD;(try clear hb);(try clear hb2);(try clear hk);(try clear hi))|(go_at_call 81;(with_reducible refine (cC.calls a0 Gu _ A4.out).mono ?_);rintro e w6 ⟨rfl,hb⟩;have bD:=ah.mk (ay cw hb);clear HB;have HB:=bD;clear bD;(try clear hb);(try clear hb2);(try clear hk);(try clear hi)))
  go_ret
  exact ⟨cZ,cw⟩
 ·replace c3:=Bool.eq_false_iff.mpr c3
  subst c3
  have H1:(some false)=some r:=by rw [if_neg (show ¬ (false=true) by decide)] at H;exact H
  clear H
  have H:=H1
  clear H1
  obtain rfl:=Option.some.inj H
  go_enter Tryz.func65,Tryz.ntmps65
  go_wp2_with (first|((with_reducible refine aN (f:=25) rfl ?_);refine cr (some 4) rfl rfl Tryz.func25 au rfl #[.string a0] rfl cV ?_;(with_reducible refine (fk.calls k a0 false _ ?aX A2.out).mono ?_);(case aX=>exact aT.below HG.out cw);rintro e w7 ⟨rfl,hb⟩;refine ⟨_,rfl,?_⟩;have bD:=ah.mk (ay cw hb);clear HB;have HB:=bD;clear bD;(try clear hb);(try clear hb2);(try clear hk);(try clear hi)))
  go_ret
  exact ⟨cZ,cw⟩
end Go.Proofs.YtokpnfljjjjikaaGreatDoor.nX
