import Derived.Test.YtokpnfljjjjikaaGreatDoorQCbx12
import Derived.Test.YtokpnfljjjjikaaGreatDoorEParse
import Derived.Test.YtokpnfljjjjikaaGreatDoorWRepsOne
set_option maxHeartbeats 8000000
set_option maxRecDepth 100000
namespace Go.Proofs.YtokpnfljjjjikaaGreatDoor.n9
open Go.RowKit Go.Proofs.aj.bQ Go.Proofs.aj.gf Go.Proofs.aj.cT
attribute [local go_sem] jt iY kQ kJ iJ iK ju jv
set_option linter.unusedVariables false
set_option linter.unusedSimpArgs false
def dQ.f (k:Nat) (a0:ByteArray) (a1:Int):Option (Bool):=(ak.f k a0).bind fun qI=>(if qI.2.2.2.2.2.2.2.2=a1 then ((aZ.f k qI.1 qI.2.1 qI.2.2.1 qI.2.2.2.1 qI.2.2.2.2.1 qI.2.2.2.2.2.1 qI.2.2.2.2.2.2.1 qI.2.2.2.2.2.2.2.1 0 (⟨#[]⟩:ByteArray) false ([]:List ByteArray) (⟨#[]⟩:ByteArray) (⟨#[]⟩:ByteArray) false ([]:List (gI))).bind fun t270=>(some t270)) else (none))
theorem dQ.mono:∀ a0 a1 k,cN (dQ.f k a0 a1) (dQ.f (k + 1) a0 a1):=by
 intro a0 a1 k
 unfold dQ.f
 repeat' first
  |(with_reducible exact ak.mono _ _)
  |(with_reducible exact aZ.mono _ _ _ _ _ _ _ _ _ _ _ _ _ _ _ _ _)
  |(with_reducible exact cN.refl _)
  |(with_reducible exact cN.none _)
  |(with_reducible refine cN.ite ?_ ?_)
  |(with_reducible refine cN.bind ?_ (fun _ =>?_))
  |refine cN.ite ?_ ?_
  |refine cN.bind ?_ (fun _ =>?_)
theorem dQ.calls (k:Nat) (a0:ByteArray) (a1:Int) (r:Bool) (w:World) (hG:aW w) (h:dQ.f k a0 a1=some r):
 Calls Tryz.prog 14 #[.string a0,.int .i64 a1] w fun e w'=>e= .returned (.bool r)∧Below w.heap.size w w':=by
 have Na:=Tryz.underlying35
 have HB:=ah.mk (Below.refl w.heap.size w)
 have HG:=ah.mk hG
 clear hG
 have H:((ak.f k a0).bind fun qI=>(if qI.2.2.2.2.2.2.2.2=a1 then ((aZ.f k qI.1 qI.2.1 qI.2.2.1 qI.2.2.2.1 qI.2.2.2.2.1 qI.2.2.2.2.2.1 qI.2.2.2.2.2.2.1 qI.2.2.2.2.2.2.2.1 0 (⟨#[]⟩:ByteArray) false ([]:List ByteArray) (⟨#[]⟩:ByteArray) (⟨#[]⟩:ByteArray) false ([]:List (gI))).bind fun t270=>(some t270)) else (none)))=some r:=h
 clear h
 replace H:=Option.bind_eq_some_iff.mp H
 obtain ⟨⟨t256,t257,t258,t259,t262,t263,t264,t265,t268⟩,zb,H⟩:=H
 replace H:(if t268=a1 then ((aZ.f k t256 t257 t258 t259 t262 t263 t264 t265 0 (⟨#[]⟩:ByteArray) false ([]:List ByteArray) (⟨#[]⟩:ByteArray) (⟨#[]⟩:ByteArray) false ([]:List (gI))).bind fun t270=>(some t270)) else (none))=some r:=H
 have A3:=ah.mk zb
 clear zb
 by_cases c4:t268=a1
 ·rw [if_pos c4] at H
  have nP:(t268 == a1)=true:=beq_iff_eq.mpr c4
  have Bn:(t268 != a1)=false:=bne_eq_false_iff_eq.mpr c4
  clear c4
  replace H:=Option.bind_eq_some_iff.mp H
  obtain ⟨t270,Nv,H⟩:=H
  replace H:(some t270)=some r:=H
  have A5:=ah.mk Nv
  clear Nv
  obtain rfl:=Option.some.inj H
  go_enter Tryz.func14,Tryz.ntmps14
  go_wp2_with (first|((with_reducible refine aT (f:=35) rfl ?_);refine cC (some 9) rfl rfl Tryz.func35 av rfl #[.string a0] rfl cY ?_;(with_reducible refine (ak.calls k a0 t256 t257 t258 t259 t262 t263 t264 t265 t268 _ ?bg A3.out).mono ?_);(case bg=>exact aW.below HG.out cA);rintro e w6 ⟨as4,as5,rfl,ho0,oN,hb⟩;refine ⟨_,rfl,?_⟩;have bI:=ah.mk (Kd.gv ho0 (dK cA));have bP:=ah.mk (Kd.gv oN (dK cA));have cw:=ah.mk (az cA hb);clear HB;have D4:=bI;have D5:=bP;have HB:=cw;clear bI bP cw;(try clear hb);(try clear hb2);(try clear hk);(try clear hi);(try clear ho0);(try clear oN))|((with_reducible refine cK (N:=5) rfl ?_);refine cu ?hg (N:=5) ?hd (cs:=#[.int .u8 0,.string (⟨#[]⟩:ByteArray),.bool false,.slice none 0 0,.string (⟨#[]⟩:ByteArray),.string (⟨#[]⟩:ByteArray),.bool false,.slice none 0 0]) (t:=35) ?hr ?_;(case hd=>rfl);(case hg=>rfl);(case hr=>first|(go_simp;done)|(go_simp;rfl));intro l6 hg w7 cM hb;have bI:=ah.mk (Kd.dA (by (with_reducible repeat (first|apply Kd.fX|apply Kd.fY|apply Kd.gW));exact D4.out) hb);have bP:=ah.mk (Kd.dA (by (with_reducible repeat (first|apply Kd.fX|apply Kd.fY|apply Kd.gW));exact D5.out) hb);have cw:=ah.mk (az cA hb);have cW:=ah.mk (cM);have jc:=ah.mk ((dW:w.heap.size≤l6));have nv:=ah.mk ((dW:w.heap.size≤l6));clear D4;clear D5;clear HB;have D4:=bI;have D5:=bP;have HB:=cw;have oQ:=cW;have aq1:=jc;have afa:=nv;clear bI bP cw cW jc nv;clear hb cM hg;have yT:w7.cell? ⟨l6,0,none⟩=some (.int .u8 0):=(af oQ.out 0).trans rfl;have yU:w7.cell? ⟨l6,1,none⟩=some (.string (⟨#[]⟩:ByteArray)):=(af oQ.out 1).trans rfl;have Du:w7.cell? ⟨l6,2,none⟩=some (.bool false):=(af oQ.out 2).trans rfl;have GG:w7.cell? ⟨l6,3,none⟩=some (.slice none 0 0):=(af oQ.out 3).trans rfl;have GH:w7.cell? ⟨l6,4,none⟩=some (.string (⟨#[]⟩:ByteArray)):=(af oQ.out 4).trans rfl;have adT:w7.cell? ⟨l6,5,none⟩=some (.string (⟨#[]⟩:ByteArray)):=(af oQ.out 5).trans rfl;have adU:w7.cell? ⟨l6,6,none⟩=some (.bool false):=(af oQ.out 6).trans rfl;have adV:w7.cell? ⟨l6,7,none⟩=some (.slice none 0 0):=(af oQ.out 7).trans rfl;have yV:=aa oQ.out 0;have yX:=aa oQ.out 1;have Dv:=aa oQ.out 2;have GI:=aa oQ.out 3;have GJ:=aa oQ.out 4;have adW:=aa oQ.out 5;have adX:=aa oQ.out 6;have adY:=aa oQ.out 7;obtain ⟨Ao9,co9,eo9⟩:=Kd.eB D4.out;subst eo9;obtain ⟨acS,Zg,aoH⟩:=Kd.eB D5.out;subst aoH)|(go_at_call 36;(refine (aZ.calls k t256 t257 t258 _ _ t259 t262 t263 t264 _ _ t265 0 (⟨#[]⟩:ByteArray) false _ _ ([]:List ByteArray) (⟨#[]⟩:ByteArray) (⟨#[]⟩:ByteArray) false _ _ ([]:List (gI)) t270 _ ?bg ?bY ?eI ?gP ?iV ?zj ?zk ?zl A5.out).mono ?_);(case bg=>refine (Kd.fD (e:=9) (base:=w.heap.size) (ok:=fun k_ =>True) (n:=t259.length) (c:=co9) ?_).2.2;exact Wm);(case bY=>exact (Kd.fD D4.out).2.1);(case eI=>refine (Kd.fD (e:=58) (base:=w.heap.size) (ok:=fun k_ =>True) (n:=t265.length) (c:=Zg) ?_).2.2;exact Wn);(case gP=>exact (Kd.fD D5.out).2.1);(case iV=>exact Kd.AU _ _);(case zj=>exact Nat.le_refl _);(case zk=>exact Kd.AU _ _);(case zl=>exact Nat.le_refl _);rintro e w11 ⟨rfl,hb⟩;have bI:=ah.mk (Kd.dA Wm hb);have bP:=ah.mk (Kd.dA Wn hb);have cw:=ah.mk (aR (g:=l6) (o:= .cells #[.int .u8 t256,.string t257,.bool t258,.slice Ao9 t259.length co9,.string t262,.string t263,.bool t264,.slice acS t265.length Zg] 35 (0,0)) (by (with_reducible repeat (first|refine aK ?_ _|refine aV ?_|refine aJ ?_ _));refine cj (cs:=#[.int .u8 t256,.string t257,.bool t258,.slice Ao9 t259.length co9,.string t262,.string t263,.bool t264,.slice none 0 0]) ?_ 7 _ rfl;(with_reducible repeat (first|refine aK ?_ _|refine aV ?_|refine aJ ?_ _));refine cj (cs:=#[.int .u8 t256,.string t257,.bool t258,.slice Ao9 t259.length co9,.string t262,.string t263,.bool false,.slice none 0 0]) ?_ 6 _ rfl;(with_reducible repeat (first|refine aK ?_ _|refine aV ?_|refine aJ ?_ _));refine cj (cs:=#[.int .u8 t256,.string t257,.bool t258,.slice Ao9 t259.length co9,.string t262,.string (⟨#[]⟩:ByteArray),.bool false,.slice none 0 0]) ?_ 5 _ rfl;(with_reducible repeat (first|refine aK ?_ _|refine aV ?_|refine aJ ?_ _));refine cj (cs:=#[.int .u8 t256,.string t257,.bool t258,.slice Ao9 t259.length co9,.string (⟨#[]⟩:ByteArray),.string (⟨#[]⟩:ByteArray),.bool false,.slice none 0 0]) ?_ 4 _ rfl;(with_reducible repeat (first|refine aK ?_ _|refine aV ?_|refine aJ ?_ _));refine cj (cs:=#[.int .u8 t256,.string t257,.bool t258,.slice none 0 0,.string (⟨#[]⟩:ByteArray),.string (⟨#[]⟩:ByteArray),.bool false,.slice none 0 0]) ?_ 3 _ rfl;(with_reducible repeat (first|refine aK ?_ _|refine aV ?_|refine aJ ?_ _));refine cj (cs:=#[.int .u8 t256,.string t257,.bool false,.slice none 0 0,.string (⟨#[]⟩:ByteArray),.string (⟨#[]⟩:ByteArray),.bool false,.slice none 0 0]) ?_ 2 _ rfl;(with_reducible repeat (first|refine aK ?_ _|refine aV ?_|refine aJ ?_ _));refine cj (cs:=#[.int .u8 t256,.string (⟨#[]⟩:ByteArray),.bool false,.slice none 0 0,.string (⟨#[]⟩:ByteArray),.string (⟨#[]⟩:ByteArray),.bool false,.slice none 0 0]) ?_ 1 _ rfl;(with_reducible repeat (first|refine aK ?_ _|refine aV ?_|refine aJ ?_ _));refine cj (cs:=#[.int .u8 0,.string (⟨#[]⟩:ByteArray),.bool false,.slice none 0 0,.string (⟨#[]⟩:ByteArray),.string (⟨#[]⟩:ByteArray),.bool false,.slice none 0 0]) ?_ 0 _ rfl;(with_reducible repeat (first|refine aK ?_ _|refine aV ?_|refine aJ ?_ _));exact oQ.out) hb);have cW:=ah.mk (az RB hb);clear D4;clear D5;clear oQ;clear HB;have D4:=bI;have D5:=bP;have oQ:=cw;have HB:=cW;clear bI bP cw cW;(try clear hb);(try clear hb2);(try clear hk);(try clear hi)))
  go_ret
  exact ⟨cU,RB⟩
 ·rw [if_neg c4] at H
  exact absurd H bf
def bF.f (k:Nat) (a0:ByteArray) (gh:Int) (jl:ByteArray) (gw:Bool) (iP:List ByteArray) (gy:ByteArray) (jh:ByteArray) (ji:Bool) (gY:List (gI)):Option (Bool):=(ak.f k a0).bind fun qJ=>(if qJ.2.2.2.2.2.2.2.2=0 then ((aZ.f k qJ.1 qJ.2.1 qJ.2.2.1 qJ.2.2.2.1 qJ.2.2.2.2.1 qJ.2.2.2.2.2.1 qJ.2.2.2.2.2.2.1 qJ.2.2.2.2.2.2.2.1 gh jl gw iP gy jh ji gY).bind fun NV=>(some NV)) else (none))
theorem bF.mono:∀ a0 a1 a2 a3 a4 a5 a6 a7 a8 k,cN (bF.f k a0 a1 a2 a3 a4 a5 a6 a7 a8) (bF.f (k + 1) a0 a1 a2 a3 a4 a5 a6 a7 a8):=by
 intro a0 a1 a2 a3 a4 a5 a6 a7 a8 k
 unfold bF.f
 repeat' first
  |(with_reducible exact ak.mono _ _)
  |(with_reducible exact aZ.mono _ _ _ _ _ _ _ _ _ _ _ _ _ _ _ _ _)
  |(with_reducible exact cN.refl _)
  |(with_reducible exact cN.none _)
  |(with_reducible refine cN.ite ?_ ?_)
  |(with_reducible refine cN.bind ?_ (fun _ =>?_))
  |refine cN.ite ?_ ?_
  |refine cN.bind ?_ (fun _ =>?_)
theorem bF.calls (k:Nat) (a0:ByteArray) (gh:Int) (jl:ByteArray) (gw:Bool) (oY:Option Addr) (oZ:Nat) (iP:List ByteArray) (gy:ByteArray) (jh:ByteArray) (ji:Bool) (o7:Option Addr) (o8:Nat) (gY:List (gI)) (r:Bool) (w:World) (M6:Kd.C Kd.string w oY iP.length iP) (M7:iP.length≤oZ) (M8:Kd.C BC w o7 gY.length gY) (M9:gY.length≤o8) (hG:aW w) (h:bF.f k a0 gh jl gw iP gy jh ji gY=some r):
 Calls Tryz.prog 16 #[.string a0,.agg #[.int .u8 gh,.string jl,.bool gw,.slice oY iP.length oZ,.string gy,.string jh,.bool ji,.slice o7 gY.length o8]] w fun e w'=>e= .returned (.bool r)∧Below w.heap.size w w':=by
 have Na:=Tryz.underlying35
 have Ec:=ah.mk M6
 have Ed:=ah.mk M7
 clear M6 M7
 have Sm:=ah.mk M8
 have abR:=ah.mk M9
 clear M8 M9
 have HB:=ah.mk (Below.refl w.heap.size w)
 have HG:=ah.mk hG
 clear hG
 have H:((ak.f k a0).bind fun qJ=>(if qJ.2.2.2.2.2.2.2.2=0 then ((aZ.f k qJ.1 qJ.2.1 qJ.2.2.1 qJ.2.2.2.1 qJ.2.2.2.2.1 qJ.2.2.2.2.2.1 qJ.2.2.2.2.2.2.1 qJ.2.2.2.2.2.2.2.1 gh jl gw iP gy jh ji gY).bind fun NV=>(some NV)) else (none)))=some r:=h
 clear h
 replace H:=Option.bind_eq_some_iff.mp H
 obtain ⟨⟨Dn,EK,Gl,Gm,JR,MP,Pv,Pw,XP⟩,zb,H⟩:=H
 replace H:(if XP=0 then ((aZ.f k Dn EK Gl Gm JR MP Pv Pw gh jl gw iP gy jh ji gY).bind fun NV=>(some NV)) else (none))=some r:=H
 have A3:=ah.mk zb
 clear zb
 by_cases c4:XP=0
 ·rw [if_pos c4] at H
  have nP:(XP == 0)=true:=beq_iff_eq.mpr c4
  have Bn:(XP != 0)=false:=bne_eq_false_iff_eq.mpr c4
  clear c4
  replace H:=Option.bind_eq_some_iff.mp H
  obtain ⟨NV,Nv,H⟩:=H
  replace H:(some NV)=some r:=H
  have A5:=ah.mk Nv
  clear Nv
  obtain rfl:=Option.some.inj H
  go_enter Tryz.func16,Tryz.ntmps16
  go_wp2_with (first|((with_reducible refine cK (N:=3) rfl ?_);refine cu ?hg (N:=3) ?hd (cs:=#[.int .u8 gh,.string jl,.bool gw,.slice oY iP.length oZ,.string gy,.string jh,.bool ji,.slice o7 gY.length o8]) (t:=35) ?hr ?_;(case hd=>rfl);(case hg=>rfl);(case hr=>first|(go_simp;done)|(go_simp;rfl));intro sP hg w6 cM hb;have bI:=ah.mk (az cA hb);have bP:=ah.mk (cM);have cw:=ah.mk ((dW:w.heap.size≤sP));have cW:=ah.mk ((dW:w.heap.size≤sP));clear HB;have HB:=bI;have nE:=bP;have aq2:=cw;have V8:=cW;clear bI bP cw cW;clear hb cM hg)|((with_reducible refine aT (f:=35) rfl ?_);refine cC (some 9) rfl rfl Tryz.func35 av rfl #[.string a0] rfl cY ?_;(with_reducible refine (ak.calls k a0 Dn EK Gl Gm JR MP Pv Pw XP _ ?bg A3.out).mono ?_);(case bg=>exact aW.below HG.out Gj);rintro e w7 ⟨as7,as8,rfl,ho0,oN,hb⟩;refine ⟨_,rfl,?_⟩;have bI:=ah.mk (Kd.gv ho0 (dK Gj));have bP:=ah.mk (Kd.gv oN (dK Gj));have cw:=ah.mk (aR (g:=sP) (o:= .cells #[.int .u8 gh,.string jl,.bool gw,.slice oY iP.length oZ,.string gy,.string jh,.bool ji,.slice o7 gY.length o8] 35 (0,0)) Fa hb);have cW:=ah.mk (az Gj hb);clear nE;clear HB;have D2:=bI;have D3:=bP;have nE:=cw;have HB:=cW;clear bI bP cw cW;(try clear hb);(try clear hb2);(try clear hk);(try clear hi);(try clear ho0);(try clear oN))|((with_reducible refine cK (N:=5) rfl ?_);refine cu ?hg (N:=5) ?hd (cs:=#[.int .u8 0,.string (⟨#[]⟩:ByteArray),.bool false,.slice none 0 0,.string (⟨#[]⟩:ByteArray),.string (⟨#[]⟩:ByteArray),.bool false,.slice none 0 0]) (t:=35) ?hr ?_;(case hd=>rfl);(case hg=>rfl);(case hr=>first|(go_simp;done)|(go_simp;rfl));intro lD hg w8 cM hb;have bI:=ah.mk (Kd.dA (by (with_reducible repeat (first|apply Kd.fX|apply Kd.fY|apply Kd.gW));exact D2.out) hb);have bP:=ah.mk (Kd.dA (by (with_reducible repeat (first|apply Kd.fX|apply Kd.fY|apply Kd.gW));exact D3.out) hb);have cw:=ah.mk (aR (g:=sP) (o:= .cells #[.int .u8 gh,.string jl,.bool gw,.slice oY iP.length oZ,.string gy,.string jh,.bool ji,.slice o7 gY.length o8] 35 (0,0)) Fa hb);have cW:=ah.mk (az Gj hb);have jc:=ah.mk (cM);have nv:=ah.mk ((Rx:w.heap.size≤lD));have nI:=ah.mk ((Rx:w.heap.size≤lD));have wD:=ah.mk ((by rw [hg];exact Nat.ne_of_lt (jq (g:=sP) (o:= .cells #[.int .u8 gh,.string jl,.bool gw,.slice oY iP.length oZ,.string gy,.string jh,.bool ji,.slice o7 gY.length o8] 35 (0,0)) Fa):sP≠lD));have yA:=ah.mk ((by rw [hg];exact Nat.ne_of_gt (jq (g:=sP) (o:= .cells #[.int .u8 gh,.string jl,.bool gw,.slice oY iP.length oZ,.string gy,.string jh,.bool ji,.slice o7 gY.length o8] 35 (0,0)) Fa):lD≠sP));clear D2;clear D3;clear nE;clear HB;have D2:=bI;have D3:=bP;have nE:=cw;have HB:=cW;have oP:=jc;have aq3:=nv;have ae8:=nI;have ou:=wD;have UZ:=yA;clear bI bP cw cW jc nv nI wD yA;clear hb cM hg;have as9:=UZ.out;have ata:=ou.out;have LG:w8.cell? ⟨lD,0,none⟩=some (.int .u8 0):=(af oP.out 0).trans rfl;have LH:w8.cell? ⟨lD,1,none⟩=some (.string (⟨#[]⟩:ByteArray)):=(af oP.out 1).trans rfl;have LI:w8.cell? ⟨lD,2,none⟩=some (.bool false):=(af oP.out 2).trans rfl;have aaT:w8.cell? ⟨lD,3,none⟩=some (.slice none 0 0):=(af oP.out 3).trans rfl;have aaU:w8.cell? ⟨lD,4,none⟩=some (.string (⟨#[]⟩:ByteArray)):=(af oP.out 4).trans rfl;have akE:w8.cell? ⟨lD,5,none⟩=some (.string (⟨#[]⟩:ByteArray)):=(af oP.out 5).trans rfl;have akF:w8.cell? ⟨lD,6,none⟩=some (.bool false):=(af oP.out 6).trans rfl;have akG:w8.cell? ⟨lD,7,none⟩=some (.slice none 0 0):=(af oP.out 7).trans rfl;have LJ:=aa oP.out 0;have LK:=aa oP.out 1;have LL:=aa oP.out 2;have aaV:=aa oP.out 3;have aaW:=aa oP.out 4;have akH:=aa oP.out 5;have akI:=aa oP.out 6;have akJ:=aa oP.out 7;obtain ⟨Pt,MO,aoI⟩:=Kd.eB D2.out;subst aoI;obtain ⟨acP,Zd,aoJ⟩:=Kd.eB D3.out;subst aoJ;have nJ:w8.cell? ⟨sP,0,none⟩=some (.int .u8 gh):=(af nE.out 0).trans rfl;have nK:w8.cell? ⟨sP,1,none⟩=some (.string jl):=(af nE.out 1).trans rfl;have qh:w8.cell? ⟨sP,2,none⟩=some (.bool gw):=(af nE.out 2).trans rfl;have uD:w8.cell? ⟨sP,3,none⟩=some (.slice oY iP.length oZ):=(af nE.out 3).trans rfl;have uE:w8.cell? ⟨sP,4,none⟩=some (.string gy):=(af nE.out 4).trans rfl;have FT:w8.cell? ⟨sP,5,none⟩=some (.string jh):=(af nE.out 5).trans rfl;have FU:w8.cell? ⟨sP,6,none⟩=some (.bool ji):=(af nE.out 6).trans rfl;have FV:w8.cell? ⟨sP,7,none⟩=some (.slice o7 gY.length o8):=(af nE.out 7).trans rfl;have nL:=aa nE.out 0;have nM:=aa nE.out 1;have qi:=aa nE.out 2;have uF:=aa nE.out 3;have uG:=aa nE.out 4;have FW:=aa nE.out 5;have FX:=aa nE.out 6;have FY:=aa nE.out 7)|(go_at_call 36;(with_reducible refine (aZ.calls k Dn EK Gl _ _ Gm JR MP Pv _ _ Pw gh jl gw _ _ iP gy jh ji _ _ gY NV _ ?bg ?bY ?eI ?gP ?iV ?zj ?zk ?zl A5.out).mono ?_);(case bg=>refine (Kd.fD (e:=9) (base:=w.heap.size) (ok:=fun k_ =>True) (n:=Gm.length) (c:=MO) ?_).2.2;exact We);(case bY=>exact (Kd.fD D2.out).2.1);(case eI=>refine (Kd.fD (e:=58) (base:=w.heap.size) (ok:=fun k_ =>True) (n:=Pw.length) (c:=Zd) ?_).2.2;exact Wf);(case gP=>exact (Kd.fD D3.out).2.1);(case iV=>exact Kd.dI Ec.out JU);(case zj=>exact Ed.out);(case zk=>exact Kd.dI Sm.out JU);(case zl=>exact abR.out);rintro e CI ⟨rfl,hb⟩;have bI:=ah.mk (Kd.dA We hb);have bP:=ah.mk (Kd.dA Wf hb);have cw:=ah.mk (aR (g:=sP) (o:= .cells #[.int .u8 gh,.string jl,.bool gw,.slice oY iP.length oZ,.string gy,.string jh,.bool ji,.slice o7 gY.length o8] 35 (0,0)) (by (with_reducible repeat (first|refine aK ?_ _|refine aV ?_|refine aJ ?_ _));refine fG ?_ ou.out _;(with_reducible repeat (first|refine aK ?_ _|refine aV ?_|refine aJ ?_ _));refine fG ?_ ou.out _;(with_reducible repeat (first|refine aK ?_ _|refine aV ?_|refine aJ ?_ _));refine fG ?_ ou.out _;(with_reducible repeat (first|refine aK ?_ _|refine aV ?_|refine aJ ?_ _));refine fG ?_ ou.out _;(with_reducible repeat (first|refine aK ?_ _|refine aV ?_|refine aJ ?_ _));refine fG ?_ ou.out _;(with_reducible repeat (first|refine aK ?_ _|refine aV ?_|refine aJ ?_ _));refine fG ?_ ou.out _;(with_reducible repeat (first|refine aK ?_ _|refine aV ?_|refine aJ ?_ _));refine fG ?_ ou.out _;(with_reducible repeat (first|refine aK ?_ _|refine aV ?_|refine aJ ?_ _));refine fG ?_ ou.out _;(with_reducible repeat (first|refine aK ?_ _|refine aV ?_|refine aJ ?_ _));exact nE.out) hb);have cW:=ah.mk (aR (g:=lD) (o:= .cells #[.int .u8 Dn,.string EK,.bool Gl,.slice Pt Gm.length MO,.string JR,.string MP,.bool Pv,.slice acP Pw.length Zd] 35 (0,0)) (by (with_reducible repeat (first|refine aK ?_ _|refine aV ?_|refine aJ ?_ _));refine cj (cs:=#[.int .u8 Dn,.string EK,.bool Gl,.slice Pt Gm.length MO,.string JR,.string MP,.bool Pv,.slice none 0 0]) ?_ 7 _ rfl;(with_reducible repeat (first|refine aK ?_ _|refine aV ?_|refine aJ ?_ _));refine cj (cs:=#[.int .u8 Dn,.string EK,.bool Gl,.slice Pt Gm.length MO,.string JR,.string MP,.bool false,.slice none 0 0]) ?_ 6 _ rfl;(with_reducible repeat (first|refine aK ?_ _|refine aV ?_|refine aJ ?_ _));refine cj (cs:=#[.int .u8 Dn,.string EK,.bool Gl,.slice Pt Gm.length MO,.string JR,.string (⟨#[]⟩:ByteArray),.bool false,.slice none 0 0]) ?_ 5 _ rfl;(with_reducible repeat (first|refine aK ?_ _|refine aV ?_|refine aJ ?_ _));refine cj (cs:=#[.int .u8 Dn,.string EK,.bool Gl,.slice Pt Gm.length MO,.string (⟨#[]⟩:ByteArray),.string (⟨#[]⟩:ByteArray),.bool false,.slice none 0 0]) ?_ 4 _ rfl;(with_reducible repeat (first|refine aK ?_ _|refine aV ?_|refine aJ ?_ _));refine cj (cs:=#[.int .u8 Dn,.string EK,.bool Gl,.slice none 0 0,.string (⟨#[]⟩:ByteArray),.string (⟨#[]⟩:ByteArray),.bool false,.slice none 0 0]) ?_ 3 _ rfl;(with_reducible repeat (first|refine aK ?_ _|refine aV ?_|refine aJ ?_ _));refine cj (cs:=#[.int .u8 Dn,.string EK,.bool false,.slice none 0 0,.string (⟨#[]⟩:ByteArray),.string (⟨#[]⟩:ByteArray),.bool false,.slice none 0 0]) ?_ 2 _ rfl;(with_reducible repeat (first|refine aK ?_ _|refine aV ?_|refine aJ ?_ _));refine cj (cs:=#[.int .u8 Dn,.string (⟨#[]⟩:ByteArray),.bool false,.slice none 0 0,.string (⟨#[]⟩:ByteArray),.string (⟨#[]⟩:ByteArray),.bool false,.slice none 0 0]) ?_ 1 _ rfl;(with_reducible repeat (first|refine aK ?_ _|refine aV ?_|refine aJ ?_ _));refine cj (cs:=#[.int .u8 0,.string (⟨#[]⟩:ByteArray),.bool false,.slice none 0 0,.string (⟨#[]⟩:ByteArray),.string (⟨#[]⟩:ByteArray),.bool false,.slice none 0 0]) ?_ 0 _ rfl;(with_reducible repeat (first|refine aK ?_ _|refine aV ?_|refine aJ ?_ _));exact oP.out) hb);have jc:=ah.mk (az JU hb);clear D2;clear D3;clear nE;clear oP;clear HB;have D2:=bI;have D3:=bP;have nE:=cw;have oP:=cW;have HB:=jc;clear bI bP cw cW jc;(try clear hb);(try clear hb2);(try clear hk);(try clear hi)))
  go_ret
  exact ⟨cU,JU⟩
 ·rw [if_neg c4] at H
  exact absurd H bf
def bO.l0:Nat→List ByteArray→Int→Int→Option (Bool)
 | 0,_,_,_ =>none
 |k + 1,x4,x5,x6=>if x6 < x5 then (if 0≤x6 then (if x6 < (x4.length:Int) then ((dQ.f k (kG ByteArray.empty x4 x6) 161).bind fun aaX=>(if aaX=true then (bO.l0 k x4 x5 (wrap64 (x6 + 1))) else (none))) else (none)) else (none)) else ((dQ.f k (⟨#[72,69,76,79,120]⟩:ByteArray) 160).bind fun aaY=>(if aaY=true then ((dQ.f k (⟨#[]⟩:ByteArray) 160).bind fun NW=>(if NW=true then ((bF.f k (⟨#[109,97,105,108,32,102,114,111,109,58,60,65,64,66,46,99,62,32,115,105,122,101,61,57,32,66,79,68,89]⟩:ByteArray) 3 (⟨#[]⟩:ByteArray) false ([]:List ByteArray) (⟨#[65]⟩:ByteArray) (⟨#[98,46,99]⟩:ByteArray) false (([(⟨(⟨#[83,73,90,69]⟩:ByteArray),(⟨#[57]⟩:ByteArray),true⟩:gI),(⟨(⟨#[66,79,68,89]⟩:ByteArray),(⟨#[]⟩:ByteArray),false⟩:gI)]:List (gI)))).bind fun CU=>(if CU=true then ((bF.f k (⟨#[69,72,76,79,32,88,46,121]⟩:ByteArray) 2 (⟨#[120,46,121]⟩:ByteArray) false ([]:List ByteArray) (⟨#[]⟩:ByteArray) (⟨#[]⟩:ByteArray) false ([]:List (gI))).bind fun yG=>(if yG=true then ((bF.f k (⟨#[78,79,79,80]⟩:ByteArray) 9 (⟨#[]⟩:ByteArray) false ([]:List ByteArray) (⟨#[]⟩:ByteArray) (⟨#[]⟩:ByteArray) false ([]:List (gI))).bind fun uv=>(if uv=true then ((bF.f k (⟨#[78,79,79,80,32,97,32,32,98]⟩:ByteArray) 9 (⟨#[97,32,32,98]⟩:ByteArray) false ([]:List ByteArray) (⟨#[]⟩:ByteArray) (⟨#[]⟩:ByteArray) false ([]:List (gI))).bind fun sQ=>(some sQ)) else (none))) else (none))) else (none))) else (none))) else (none)))
def bO.f (k:Nat):Option (Bool):=(some (([(⟨#[78,79,79,80,32]⟩:ByteArray),(⟨#[77,65,73,76,32,70,82,79,77,58,32,60,62]⟩:ByteArray),(⟨#[68,65,84,65,32,120]⟩:ByteArray),(⟨#[82,67,80,84,32,84,79,58,60,62]⟩:ByteArray),(⟨#[77,65,73,76,32,70,82,79,77,58,60,112,111,115,116,109,97,115,116,101,114,62]⟩:ByteArray)]:List ByteArray):List ByteArray)).bind fun tG=>(bO.l0 k tG (tG.length:Int) 0)
theorem bO.fU:∀ k,(∀ y0 y1 y2,cN (bO.l0 k y0 y1 y2) (bO.l0 (k + 1) y0 y1 y2))
 | 0=>fun _ _ _ r h=>by simp [bO.l0] at h
 |k + 1=>by
  have oK:=bO.fU k
  ·intro y0 y1 y2
   unfold bO.l0
   repeat' first
   |(with_reducible exact oK _ _ _)
   |(with_reducible exact bF.mono _ _ _ _ _ _ _ _ _ _)
   |(with_reducible exact dQ.mono _ _ _)
   |(with_reducible exact cN.refl _)
   |(with_reducible exact cN.none _)
   |(with_reducible refine cN.ite ?_ ?_)
   |(with_reducible refine cN.bind ?_ (fun _ =>?_))
   |refine cN.ite ?_ ?_
   |refine cN.bind ?_ (fun _ =>?_)
theorem bO.mono:∀ k,cN (bO.f k) (bO.f (k + 1)):=by
 intro k
 have oK:=bO.fU k
 unfold bO.f
 repeat' first
  |(with_reducible exact oK _ _ _)
  |(with_reducible exact bF.mono _ _ _ _ _ _ _ _ _ _)
  |(with_reducible exact dQ.mono _ _ _)
  |(with_reducible exact cN.refl _)
  |(with_reducible exact cN.none _)
  |(with_reducible refine cN.ite ?_ ?_)
  |(with_reducible refine cN.bind ?_ (fun _ =>?_))
  |refine cN.ite ?_ ?_
  |refine cN.bind ?_ (fun _ =>?_)
theorem bO.calls (k:Nat) (r:Bool) (w:World) (hG:aW w) (h:bO.f k=some r):
 Calls Tryz.prog 15 #[] w fun e w'=>e= .returned (.bool r)∧Below w.heap.size w w':=by
 have M4:=Tryz.underlying30
 have M3:=Tryz.underlying32
 have UR:=Tryz.underlying58
 have Na:=Tryz.underlying35
 have HB:=ah.mk (Below.refl w.heap.size w)
 have HG:=ah.mk hG
 clear hG
 have H:((some (([(⟨#[78,79,79,80,32]⟩:ByteArray),(⟨#[77,65,73,76,32,70,82,79,77,58,32,60,62]⟩:ByteArray),(⟨#[68,65,84,65,32,120]⟩:ByteArray),(⟨#[82,67,80,84,32,84,79,58,60,62]⟩:ByteArray),(⟨#[77,65,73,76,32,70,82,79,77,58,60,112,111,115,116,109,97,115,116,101,114,62]⟩:ByteArray)]:List ByteArray):List ByteArray)).bind fun tG=>(bO.l0 k tG (tG.length:Int) 0))=some r:=h
 clear h
 obtain ⟨tG,NY⟩:∃ y_:List ByteArray,y_=(([(⟨#[78,79,79,80,32]⟩:ByteArray),(⟨#[77,65,73,76,32,70,82,79,77,58,32,60,62]⟩:ByteArray),(⟨#[68,65,84,65,32,120]⟩:ByteArray),(⟨#[82,67,80,84,32,84,79,58,60,62]⟩:ByteArray),(⟨#[77,65,73,76,32,70,82,79,77,58,60,112,111,115,116,109,97,115,116,101,114,62]⟩:ByteArray)]:List ByteArray)):=⟨_,rfl⟩
 replace H:(bO.l0 k tG (tG.length:Int) 0)=some r:=by first|(rw [NY];with_reducible exact H)|(have Qf:=(Option.bind_some _ _).symm.trans H;rw [NY];with_reducible exact Qf)|(have Qf:=(Option.bind_some _ _).symm.trans H;with_reducible exact Qf)|with_reducible exact H|(rw [NY];exact H)|exact H
 have ace:=ah.mk NY
 clear NY
 have H':=ah.mk H
 clear H
 go_enter Tryz.func15,Tryz.ntmps15
 go_wp2_with (first|((with_reducible refine cK (N:=4) rfl ?_);(try (refine eu (by rfl) ?_;dsimp only));refine Kd.abI Kd.string _ 9 ?hg (N:=4) ?hd (xs:=([(⟨#[78,79,79,80,32]⟩:ByteArray),(⟨#[77,65,73,76,32,70,82,79,77,58,32,60,62]⟩:ByteArray),(⟨#[68,65,84,65,32,120]⟩:ByteArray),(⟨#[82,67,80,84,32,84,79,58,60,62]⟩:ByteArray),(⟨#[77,65,73,76,32,70,82,79,77,58,60,112,111,115,116,109,97,115,116,101,114,62]⟩:ByteArray)]:List ByteArray)) (inner:=[.string (⟨#[78,79,79,80,32]⟩:ByteArray),.string (⟨#[77,65,73,76,32,70,82,79,77,58,32,60,62]⟩:ByteArray),.string (⟨#[68,65,84,65,32,120]⟩:ByteArray),.string (⟨#[82,67,80,84,32,84,79,58,60,62]⟩:ByteArray),.string (⟨#[77,65,73,76,32,70,82,79,77,58,60,112,111,115,116,109,97,115,116,101,114,62]⟩:ByteArray)]) (ok:=fun _ =>True) (PK:=fun _ =>True) ?hr ?hp (fun _ hk=>hk) trivial (Below.refl _ _) (Nat.le_refl _) bf ?_;(case hd=>rfl);(case hg=>rfl);(case hr=>first|(go_simp;done)|(go_simp;rfl));(case hp=>exact (iI.one (show Kd.M Kd.string _ _ _ (⟨#[78,79,79,80,32]⟩:ByteArray) [.string (⟨#[78,79,79,80,32]⟩:ByteArray)] from rfl) (iI.one (show Kd.M Kd.string _ _ _ (⟨#[77,65,73,76,32,70,82,79,77,58,32,60,62]⟩:ByteArray) [.string (⟨#[77,65,73,76,32,70,82,79,77,58,32,60,62]⟩:ByteArray)] from rfl) (iI.one (show Kd.M Kd.string _ _ _ (⟨#[68,65,84,65,32,120]⟩:ByteArray) [.string (⟨#[68,65,84,65,32,120]⟩:ByteArray)] from rfl) (iI.one (show Kd.M Kd.string _ _ _ (⟨#[82,67,80,84,32,84,79,58,60,62]⟩:ByteArray) [.string (⟨#[82,67,80,84,32,84,79,58,60,62]⟩:ByteArray)] from rfl) (iI.one (show Kd.M Kd.string _ _ _ (⟨#[77,65,73,76,32,70,82,79,77,58,60,112,111,115,116,109,97,115,116,101,114,62]⟩:ByteArray) [.string (⟨#[77,65,73,76,32,70,82,79,77,58,60,112,111,115,116,109,97,115,116,101,114,62]⟩:ByteArray)] from rfl) (iI.none _ _)))))));intro atb w1 AO hb hg_ XQ;clear hg_ XQ;(first|rw [← ace.out] at AO|(simp only [Int.reduceToNat] at AO;rw [← ace.out] at AO));have bI:=ah.mk (Kd.gv AO (dK cA));have bP:=ah.mk (az cA hb);clear HB;have acf:=bI;have HB:=bP;clear bI bP;clear hb AO;obtain ⟨Ao3,co3,eo3⟩:=Kd.eB acf.out;subst eo3))
 go_loopg [6] k (fun kq v6 w'=>∃ (nT:Int),v6= .int .i64 nT∧ah (bO.l0 kq tG (tG.length:Int) nT=some r)∧ah (kq≤k)∧ah (Kd.R Kd.string 9 w' w.heap.size (fun _ =>True) (.slice Ao3 tG.length co3) tG)∧ah (Below w.heap.size w w'))
 case atStart=>exact ⟨(0),dL,H',⟨Nat.le_refl _⟩,⟨by (with_reducible repeat (first|apply Kd.fX|apply Kd.fY|apply Kd.gW));exact acf.out⟩,⟨cA⟩⟩
 case round=>
  clear H'
  try clear c1
  try clear p2
  obtain ⟨nT,rfl,HA,wS,vX,HB⟩:=hrel
  cases gk with
  |zero=>exact absurd HA.out (by simp [bO.l0])
  |succ k1=>
   have H:=HA.out
   clear HA
   simp only [bO.l0] at H
   by_cases c4:nT < (tG.length:Int)
   ·rw [if_pos c4] at H
    have nP:decide (nT < (tG.length:Int))=true:=decide_eq_true c4
    clear c4
    by_cases c5: 0≤nT
    ·rw [if_pos c5] at H
     have vZ:decide (0≤nT)=true:=decide_eq_true c5
     clear c5
     by_cases c6:nT < (tG.length:Int)
     ·rw [if_pos c6] at H
      have oW:decide (nT < (tG.length:Int))=true:=decide_eq_true c6
      clear c6
      replace H:=Option.bind_eq_some_iff.mp H
      obtain ⟨aaX,GV,H⟩:=H
      replace H:(if aaX=true then (bO.l0 k1 tG (tG.length:Int) (wrap64 (nT + 1))) else (none))=some r:=H
      have A7:=ah.mk GV
      clear GV
      by_cases c8:aaX=true
      ·subst c8
       have H1:(bO.l0 k1 tG (tG.length:Int) (wrap64 (nT + 1)))=some r:=by rw [if_pos rfl] at H;exact H
       clear H
       have H:=H1
       clear H1
       have H':=ah.mk H
       clear H
       have adZ: 0≤(nT:Int):=of_decide_eq_true cO
       have ad0:nT < (tG.length:Int):=of_decide_eq_true cO
       obtain ⟨aq4,aoL,akK⟩:=Kd.jB (Kd.fD vX.out).2.2 nT adZ ad0
       cases aoL
       replace adZ:=eq_true adZ
       replace ad0:=eq_true ad0
       go_wp2_with (first|((with_reducible refine aT (f:=14) rfl ?_);refine cC (some 11) rfl rfl Tryz.func14 av rfl #[.string (kG ByteArray.empty tG nT),.int .i64 161] rfl cY ?_;(with_reducible refine (dQ.calls k1 (kG ByteArray.empty tG nT) 161 true _ ?bg A7.out).mono ?_);(case bg=>exact aW.below HG.out cA);rintro e w9 ⟨rfl,hb⟩;refine ⟨_,rfl,?_⟩;have bI:=ah.mk (Kd.dA wR hb);have bP:=ah.mk (az cA hb);clear vX;clear HB;have vX:=bI;have HB:=bP;clear bI bP;(try clear hb);(try clear hb2);(try clear hk);(try clear hi)))
       go_roundg k1
       case measure=>have:=wS.out;omega
       case rel=>exact ⟨(wrap64 (nT + 1)),dL,H',⟨ko⟩,⟨wR⟩,⟨cA⟩⟩
      ·replace c8:=Bool.eq_false_iff.mpr c8
       subst c8
       have H1:(none)=some r:=by rw [if_neg (show ¬ (false=true) by decide)] at H;exact H
       clear H
       have H:=H1
       clear H1
       exact absurd H bf
     ·rw [if_neg c6] at H
      exact absurd H bf
    ·rw [if_neg c5] at H
     exact absurd H bf
   ·rw [if_neg c4] at H
    have nP:decide (nT < (tG.length:Int))=false:=decide_eq_false c4
    clear c4
    replace H:=Option.bind_eq_some_iff.mp H
    obtain ⟨aaY,W6,H⟩:=H
    replace H:(if aaY=true then ((dQ.f k1 (⟨#[]⟩:ByteArray) 160).bind fun NW=>(if NW=true then ((bF.f k1 (⟨#[109,97,105,108,32,102,114,111,109,58,60,65,64,66,46,99,62,32,115,105,122,101,61,57,32,66,79,68,89]⟩:ByteArray) 3 (⟨#[]⟩:ByteArray) false ([]:List ByteArray) (⟨#[65]⟩:ByteArray) (⟨#[98,46,99]⟩:ByteArray) false (([(⟨(⟨#[83,73,90,69]⟩:ByteArray),(⟨#[57]⟩:ByteArray),true⟩:gI),(⟨(⟨#[66,79,68,89]⟩:ByteArray),(⟨#[]⟩:ByteArray),false⟩:gI)]:List (gI)))).bind fun CU=>(if CU=true then ((bF.f k1 (⟨#[69,72,76,79,32,88,46,121]⟩:ByteArray) 2 (⟨#[120,46,121]⟩:ByteArray) false ([]:List ByteArray) (⟨#[]⟩:ByteArray) (⟨#[]⟩:ByteArray) false ([]:List (gI))).bind fun yG=>(if yG=true then ((bF.f k1 (⟨#[78,79,79,80]⟩:ByteArray) 9 (⟨#[]⟩:ByteArray) false ([]:List ByteArray) (⟨#[]⟩:ByteArray) (⟨#[]⟩:ByteArray) false ([]:List (gI))).bind fun uv=>(if uv=true then ((bF.f k1 (⟨#[78,79,79,80,32,97,32,32,98]⟩:ByteArray) 9 (⟨#[97,32,32,98]⟩:ByteArray) false ([]:List ByteArray) (⟨#[]⟩:ByteArray) (⟨#[]⟩:ByteArray) false ([]:List (gI))).bind fun sQ=>(some sQ)) else (none))) else (none))) else (none))) else (none))) else (none))=some r:=H
    have A10:=ah.mk W6
    clear W6
    by_cases c11:aaY=true
    ·subst c11
     have H1:((dQ.f k1 (⟨#[]⟩:ByteArray) 160).bind fun NW=>(if NW=true then ((bF.f k1 (⟨#[109,97,105,108,32,102,114,111,109,58,60,65,64,66,46,99,62,32,115,105,122,101,61,57,32,66,79,68,89]⟩:ByteArray) 3 (⟨#[]⟩:ByteArray) false ([]:List ByteArray) (⟨#[65]⟩:ByteArray) (⟨#[98,46,99]⟩:ByteArray) false (([(⟨(⟨#[83,73,90,69]⟩:ByteArray),(⟨#[57]⟩:ByteArray),true⟩:gI),(⟨(⟨#[66,79,68,89]⟩:ByteArray),(⟨#[]⟩:ByteArray),false⟩:gI)]:List (gI)))).bind fun CU=>(if CU=true then ((bF.f k1 (⟨#[69,72,76,79,32,88,46,121]⟩:ByteArray) 2 (⟨#[120,46,121]⟩:ByteArray) false ([]:List ByteArray) (⟨#[]⟩:ByteArray) (⟨#[]⟩:ByteArray) false ([]:List (gI))).bind fun yG=>(if yG=true then ((bF.f k1 (⟨#[78,79,79,80]⟩:ByteArray) 9 (⟨#[]⟩:ByteArray) false ([]:List ByteArray) (⟨#[]⟩:ByteArray) (⟨#[]⟩:ByteArray) false ([]:List (gI))).bind fun uv=>(if uv=true then ((bF.f k1 (⟨#[78,79,79,80,32,97,32,32,98]⟩:ByteArray) 9 (⟨#[97,32,32,98]⟩:ByteArray) false ([]:List ByteArray) (⟨#[]⟩:ByteArray) (⟨#[]⟩:ByteArray) false ([]:List (gI))).bind fun sQ=>(some sQ)) else (none))) else (none))) else (none))) else (none)))=some r:=by rw [if_pos rfl] at H;exact H
     clear H
     have H:=H1
     clear H1
     replace H:=Option.bind_eq_some_iff.mp H
     obtain ⟨NW,GZ,H⟩:=H
     replace H:(if NW=true then ((bF.f k1 (⟨#[109,97,105,108,32,102,114,111,109,58,60,65,64,66,46,99,62,32,115,105,122,101,61,57,32,66,79,68,89]⟩:ByteArray) 3 (⟨#[]⟩:ByteArray) false ([]:List ByteArray) (⟨#[65]⟩:ByteArray) (⟨#[98,46,99]⟩:ByteArray) false (([(⟨(⟨#[83,73,90,69]⟩:ByteArray),(⟨#[57]⟩:ByteArray),true⟩:gI),(⟨(⟨#[66,79,68,89]⟩:ByteArray),(⟨#[]⟩:ByteArray),false⟩:gI)]:List (gI)))).bind fun CU=>(if CU=true then ((bF.f k1 (⟨#[69,72,76,79,32,88,46,121]⟩:ByteArray) 2 (⟨#[120,46,121]⟩:ByteArray) false ([]:List ByteArray) (⟨#[]⟩:ByteArray) (⟨#[]⟩:ByteArray) false ([]:List (gI))).bind fun yG=>(if yG=true then ((bF.f k1 (⟨#[78,79,79,80]⟩:ByteArray) 9 (⟨#[]⟩:ByteArray) false ([]:List ByteArray) (⟨#[]⟩:ByteArray) (⟨#[]⟩:ByteArray) false ([]:List (gI))).bind fun uv=>(if uv=true then ((bF.f k1 (⟨#[78,79,79,80,32,97,32,32,98]⟩:ByteArray) 9 (⟨#[97,32,32,98]⟩:ByteArray) false ([]:List ByteArray) (⟨#[]⟩:ByteArray) (⟨#[]⟩:ByteArray) false ([]:List (gI))).bind fun sQ=>(some sQ)) else (none))) else (none))) else (none))) else (none))=some r:=H
     have MH:=ah.mk GZ
     clear GZ
     by_cases c13:NW=true
     ·subst c13
      have H1:((bF.f k1 (⟨#[109,97,105,108,32,102,114,111,109,58,60,65,64,66,46,99,62,32,115,105,122,101,61,57,32,66,79,68,89]⟩:ByteArray) 3 (⟨#[]⟩:ByteArray) false ([]:List ByteArray) (⟨#[65]⟩:ByteArray) (⟨#[98,46,99]⟩:ByteArray) false (([(⟨(⟨#[83,73,90,69]⟩:ByteArray),(⟨#[57]⟩:ByteArray),true⟩:gI),(⟨(⟨#[66,79,68,89]⟩:ByteArray),(⟨#[]⟩:ByteArray),false⟩:gI)]:List (gI)))).bind fun CU=>(if CU=true then ((bF.f k1 (⟨#[69,72,76,79,32,88,46,121]⟩:ByteArray) 2 (⟨#[120,46,121]⟩:ByteArray) false ([]:List ByteArray) (⟨#[]⟩:ByteArray) (⟨#[]⟩:ByteArray) false ([]:List (gI))).bind fun yG=>(if yG=true then ((bF.f k1 (⟨#[78,79,79,80]⟩:ByteArray) 9 (⟨#[]⟩:ByteArray) false ([]:List ByteArray) (⟨#[]⟩:ByteArray) (⟨#[]⟩:ByteArray) false ([]:List (gI))).bind fun uv=>(if uv=true then ((bF.f k1 (⟨#[78,79,79,80,32,97,32,32,98]⟩:ByteArray) 9 (⟨#[97,32,32,98]⟩:ByteArray) false ([]:List ByteArray) (⟨#[]⟩:ByteArray) (⟨#[]⟩:ByteArray) false ([]:List (gI))).bind fun sQ=>(some sQ)) else (none))) else (none))) else (none)))=some r:=by rw [if_pos rfl] at H;exact H
      clear H
      have H:=H1
      clear H1
      obtain ⟨agm,NZ⟩:∃ y_:List (gI),y_=(([(⟨(⟨#[83,73,90,69]⟩:ByteArray),(⟨#[57]⟩:ByteArray),true⟩:gI),(⟨(⟨#[66,79,68,89]⟩:ByteArray),(⟨#[]⟩:ByteArray),false⟩:gI)]:List (gI))):=⟨_,rfl⟩
      replace H:((bF.f k1 (⟨#[109,97,105,108,32,102,114,111,109,58,60,65,64,66,46,99,62,32,115,105,122,101,61,57,32,66,79,68,89]⟩:ByteArray) 3 (⟨#[]⟩:ByteArray) false ([]:List ByteArray) (⟨#[65]⟩:ByteArray) (⟨#[98,46,99]⟩:ByteArray) false agm).bind fun CU=>(if CU=true then ((bF.f k1 (⟨#[69,72,76,79,32,88,46,121]⟩:ByteArray) 2 (⟨#[120,46,121]⟩:ByteArray) false ([]:List ByteArray) (⟨#[]⟩:ByteArray) (⟨#[]⟩:ByteArray) false ([]:List (gI))).bind fun yG=>(if yG=true then ((bF.f k1 (⟨#[78,79,79,80]⟩:ByteArray) 9 (⟨#[]⟩:ByteArray) false ([]:List ByteArray) (⟨#[]⟩:ByteArray) (⟨#[]⟩:ByteArray) false ([]:List (gI))).bind fun uv=>(if uv=true then ((bF.f k1 (⟨#[78,79,79,80,32,97,32,32,98]⟩:ByteArray) 9 (⟨#[97,32,32,98]⟩:ByteArray) false ([]:List ByteArray) (⟨#[]⟩:ByteArray) (⟨#[]⟩:ByteArray) false ([]:List (gI))).bind fun sQ=>(some sQ)) else (none))) else (none))) else (none)))=some r:=by first|(rw [NZ];with_reducible exact H)|(have Qf:=(Option.bind_some _ _).symm.trans H;rw [NZ];with_reducible exact Qf)|(have Qf:=(Option.bind_some _ _).symm.trans H;with_reducible exact Qf)|with_reducible exact H|(rw [NZ];exact H)|exact H
      have acg:=ah.mk NZ
      clear NZ
      replace H:=Option.bind_eq_some_iff.mp H
      obtain ⟨CU,CK,H⟩:=H
      replace H:(if CU=true then ((bF.f k1 (⟨#[69,72,76,79,32,88,46,121]⟩:ByteArray) 2 (⟨#[120,46,121]⟩:ByteArray) false ([]:List ByteArray) (⟨#[]⟩:ByteArray) (⟨#[]⟩:ByteArray) false ([]:List (gI))).bind fun yG=>(if yG=true then ((bF.f k1 (⟨#[78,79,79,80]⟩:ByteArray) 9 (⟨#[]⟩:ByteArray) false ([]:List ByteArray) (⟨#[]⟩:ByteArray) (⟨#[]⟩:ByteArray) false ([]:List (gI))).bind fun uv=>(if uv=true then ((bF.f k1 (⟨#[78,79,79,80,32,97,32,32,98]⟩:ByteArray) 9 (⟨#[97,32,32,98]⟩:ByteArray) false ([]:List ByteArray) (⟨#[]⟩:ByteArray) (⟨#[]⟩:ByteArray) false ([]:List (gI))).bind fun sQ=>(some sQ)) else (none))) else (none))) else (none))=some r:=H
      have W7:=ah.mk CK
      clear CK
      by_cases c15:CU=true
      ·subst c15
       have H1:((bF.f k1 (⟨#[69,72,76,79,32,88,46,121]⟩:ByteArray) 2 (⟨#[120,46,121]⟩:ByteArray) false ([]:List ByteArray) (⟨#[]⟩:ByteArray) (⟨#[]⟩:ByteArray) false ([]:List (gI))).bind fun yG=>(if yG=true then ((bF.f k1 (⟨#[78,79,79,80]⟩:ByteArray) 9 (⟨#[]⟩:ByteArray) false ([]:List ByteArray) (⟨#[]⟩:ByteArray) (⟨#[]⟩:ByteArray) false ([]:List (gI))).bind fun uv=>(if uv=true then ((bF.f k1 (⟨#[78,79,79,80,32,97,32,32,98]⟩:ByteArray) 9 (⟨#[97,32,32,98]⟩:ByteArray) false ([]:List ByteArray) (⟨#[]⟩:ByteArray) (⟨#[]⟩:ByteArray) false ([]:List (gI))).bind fun sQ=>(some sQ)) else (none))) else (none)))=some r:=by rw [if_pos rfl] at H;exact H
       clear H
       have H:=H1
       clear H1
       replace H:=Option.bind_eq_some_iff.mp H
       obtain ⟨yG,NS,H⟩:=H
       replace H:(if yG=true then ((bF.f k1 (⟨#[78,79,79,80]⟩:ByteArray) 9 (⟨#[]⟩:ByteArray) false ([]:List ByteArray) (⟨#[]⟩:ByteArray) (⟨#[]⟩:ByteArray) false ([]:List (gI))).bind fun uv=>(if uv=true then ((bF.f k1 (⟨#[78,79,79,80,32,97,32,32,98]⟩:ByteArray) 9 (⟨#[97,32,32,98]⟩:ByteArray) false ([]:List ByteArray) (⟨#[]⟩:ByteArray) (⟨#[]⟩:ByteArray) false ([]:List (gI))).bind fun sQ=>(some sQ)) else (none))) else (none))=some r:=H
       have A16:=ah.mk NS
       clear NS
       by_cases c17:yG=true
       ·subst c17
        have H1:((bF.f k1 (⟨#[78,79,79,80]⟩:ByteArray) 9 (⟨#[]⟩:ByteArray) false ([]:List ByteArray) (⟨#[]⟩:ByteArray) (⟨#[]⟩:ByteArray) false ([]:List (gI))).bind fun uv=>(if uv=true then ((bF.f k1 (⟨#[78,79,79,80,32,97,32,32,98]⟩:ByteArray) 9 (⟨#[97,32,32,98]⟩:ByteArray) false ([]:List ByteArray) (⟨#[]⟩:ByteArray) (⟨#[]⟩:ByteArray) false ([]:List (gI))).bind fun sQ=>(some sQ)) else (none)))=some r:=by rw [if_pos rfl] at H;exact H
        clear H
        have H:=H1
        clear H1
        replace H:=Option.bind_eq_some_iff.mp H
        obtain ⟨uv,Xm,H⟩:=H
        replace H:(if uv=true then ((bF.f k1 (⟨#[78,79,79,80,32,97,32,32,98]⟩:ByteArray) 9 (⟨#[97,32,32,98]⟩:ByteArray) false ([]:List ByteArray) (⟨#[]⟩:ByteArray) (⟨#[]⟩:ByteArray) false ([]:List (gI))).bind fun sQ=>(some sQ)) else (none))=some r:=H
        have A18:=ah.mk Xm
        clear Xm
        by_cases c19:uv=true
        ·subst c19
         have H1:((bF.f k1 (⟨#[78,79,79,80,32,97,32,32,98]⟩:ByteArray) 9 (⟨#[97,32,32,98]⟩:ByteArray) false ([]:List ByteArray) (⟨#[]⟩:ByteArray) (⟨#[]⟩:ByteArray) false ([]:List (gI))).bind fun sQ=>(some sQ))=some r:=by rw [if_pos rfl] at H;exact H
         clear H
         have H:=H1
         clear H1
         replace H:=Option.bind_eq_some_iff.mp H
         obtain ⟨sQ,XH,H⟩:=H
         replace H:(some sQ)=some r:=H
         have oL:=ah.mk XH
         clear XH
         obtain rfl:=Option.some.inj H
         go_wp2_with (first|((with_reducible refine cK (N:=3) rfl ?_);(try (refine eu (by rfl) ?_;dsimp only));refine cu ?hg (N:=3) ?hd (cs:=#[.bool false,.slice none 0 0,.string (⟨#[]⟩:ByteArray),.string (⟨#[]⟩:ByteArray),.bool false]) (t:=32) ?hr ?_;(case hd=>rfl);(case hg=>rfl);(case hr=>first|(go_simp;done)|(go_simp;rfl));intro nO hg w21 cM hb;have bI:=ah.mk (Kd.dA wR hb);have bP:=ah.mk (az cA hb);have cw:=ah.mk (cM);have cW:=ah.mk ((dW:w.heap.size≤nO));have jc:=ah.mk ((dW:w.heap.size≤nO));clear vX;clear HB;have vX:=bI;have HB:=bP;have jZ:=cw;have aq5:=cW;have ae3:=jc;clear bI bP cw cW jc;clear hb cM hg;have zZ:w21.cell? ⟨nO,0,none⟩=some (.bool false):=(af jZ.out 0).trans rfl;have z6:w21.cell? ⟨nO,1,none⟩=some (.slice none 0 0):=(af jZ.out 1).trans rfl;have Cn:w21.cell? ⟨nO,2,none⟩=some (.string (⟨#[]⟩:ByteArray)):=(af jZ.out 2).trans rfl;have K8:w21.cell? ⟨nO,3,none⟩=some (.string (⟨#[]⟩:ByteArray)):=(af jZ.out 3).trans rfl;have K9:w21.cell? ⟨nO,4,none⟩=some (.bool false):=(af jZ.out 4).trans rfl;have z7:=aa jZ.out 0;have z8:=aa jZ.out 1;have Co:=aa jZ.out 2;have La:=aa jZ.out 3;have Lb:=aa jZ.out 4)|((with_reducible refine aT (f:=14) rfl ?_);refine cC (some 16) rfl rfl Tryz.func14 av rfl #[.string (⟨#[72,69,76,79,120]⟩:ByteArray),.int .i64 160] rfl cY ?_;(with_reducible refine (dQ.calls k1 (⟨#[72,69,76,79,120]⟩:ByteArray) 160 true _ ?bg A10.out).mono ?_);(case bg=>exact aW.below HG.out pK);rintro e NI ⟨rfl,hb⟩;refine ⟨_,rfl,?_⟩;have bI:=ah.mk (Kd.dA (by (with_reducible repeat (first|apply Kd.fX|apply Kd.fY|apply Kd.gW));exact (Kd.gp (Kd.cJ (p:=⟨nO,4,none⟩) (Kd.cJ (p:=⟨nO,3,none⟩) (Kd.cJ (p:=⟨nO,2,none⟩) (Kd.cJ (p:=⟨nO,1,none⟩) (Kd.cJ (p:=⟨nO,0,none⟩) (Kd.kj vX.out jZ.out bL) (fun _ hk=>hk.2) (.bool false)) (fun _ hk=>hk.2) (.slice none 0 0)) (fun _ hk=>hk.2) (.string (⟨#[65]⟩:ByteArray))) (fun _ hk=>hk.2) (.string (⟨#[98,46,99]⟩:ByteArray))) (fun _ hk=>hk.2) (.bool false)) (fun _ h_ =>h_.1))) hb);have bP:=ah.mk (aR (g:=nO) (o:= .cells #[.bool false,.slice none 0 0,.string (⟨#[65]⟩:ByteArray),.string (⟨#[98,46,99]⟩:ByteArray),.bool false] 32 (0,0)) (by (with_reducible repeat (first|refine aK ?_ _|refine aV ?_|refine aJ ?_ _));refine cj (cs:=#[.bool false,.slice none 0 0,.string (⟨#[65]⟩:ByteArray),.string (⟨#[98,46,99]⟩:ByteArray),.bool false]) ?_ 4 _ rfl;(with_reducible repeat (first|refine aK ?_ _|refine aV ?_|refine aJ ?_ _));refine cj (cs:=#[.bool false,.slice none 0 0,.string (⟨#[65]⟩:ByteArray),.string (⟨#[]⟩:ByteArray),.bool false]) ?_ 3 _ rfl;(with_reducible repeat (first|refine aK ?_ _|refine aV ?_|refine aJ ?_ _));refine cj (cs:=#[.bool false,.slice none 0 0,.string (⟨#[]⟩:ByteArray),.string (⟨#[]⟩:ByteArray),.bool false]) ?_ 2 _ rfl;(with_reducible repeat (first|refine aK ?_ _|refine aV ?_|refine aJ ?_ _));refine cj (cs:=#[.bool false,.slice none 0 0,.string (⟨#[]⟩:ByteArray),.string (⟨#[]⟩:ByteArray),.bool false]) ?_ 1 _ rfl;(with_reducible repeat (first|refine aK ?_ _|refine aV ?_|refine aJ ?_ _));refine cj (cs:=#[.bool false,.slice none 0 0,.string (⟨#[]⟩:ByteArray),.string (⟨#[]⟩:ByteArray),.bool false]) ?_ 0 _ rfl;(with_reducible repeat (first|refine aK ?_ _|refine aV ?_|refine aJ ?_ _));exact jZ.out) hb);have cw:=ah.mk (az pK hb);clear vX;clear jZ;clear HB;have vX:=bI;have jZ:=bP;have HB:=cw;clear bI bP cw;(try clear hb);(try clear hb2);(try clear hk);(try clear hi))|(go_at_call 14;(with_reducible refine (dQ.calls k1 (⟨#[]⟩:ByteArray) 160 true _ ?bg MH.out).mono ?_);(case bg=>exact aW.below HG.out pK);rintro e Mh ⟨rfl,hb⟩;have bI:=ah.mk (Kd.dA wR hb);have bP:=ah.mk (aR (g:=nO) (o:= .cells #[.bool false,.slice none 0 0,.string (⟨#[65]⟩:ByteArray),.string (⟨#[98,46,99]⟩:ByteArray),.bool false] 32 (0,0)) Dq hb);have cw:=ah.mk (az pK hb);clear vX;clear jZ;clear HB;have vX:=bI;have jZ:=bP;have HB:=cw;clear bI bP cw;(try clear hb);(try clear hb2);(try clear hk);(try clear hi);have vC:Mh.cell? ⟨nO,0,none⟩=some (.bool false):=(af jZ.out 0).trans rfl;have vD:Mh.cell? ⟨nO,1,none⟩=some (.slice none 0 0):=(af jZ.out 1).trans rfl;have vE:Mh.cell? ⟨nO,2,none⟩=some (.string (⟨#[65]⟩:ByteArray)):=(af jZ.out 2).trans rfl;have Ao:Mh.cell? ⟨nO,3,none⟩=some (.string (⟨#[98,46,99]⟩:ByteArray)):=(af jZ.out 3).trans rfl;have Ap:Mh.cell? ⟨nO,4,none⟩=some (.bool false):=(af jZ.out 4).trans rfl;have vF:=aa jZ.out 0;have vG:=aa jZ.out 1;have vH:=aa jZ.out 2;have Aq:=aa jZ.out 3;have Ar:=aa jZ.out 4)|((with_reducible refine cK (N:=24) rfl ?_);(try (refine eu (by rfl) ?_;dsimp only));refine Kd.abI BC _ 58 ?hg (N:=24) ?hd (xs:=([(⟨(⟨#[83,73,90,69]⟩:ByteArray),(⟨#[57]⟩:ByteArray),true⟩:gI),(⟨(⟨#[66,79,68,89]⟩:ByteArray),(⟨#[]⟩:ByteArray),false⟩:gI)]:List (gI))) (inner:=[.string (⟨#[83,73,90,69]⟩:ByteArray),.string (⟨#[57]⟩:ByteArray),.bool true,.string (⟨#[66,79,68,89]⟩:ByteArray),.string (⟨#[]⟩:ByteArray),.bool false]) (ok:=fun _ =>True) (PK:=fun _ =>True) ?hr ?hp (fun _ hk=>hk) trivial (Below.refl _ _) (Nat.le_refl _) bf ?_;(case hd=>rfl);(case hg=>rfl);(case hr=>first|(go_simp;done)|(go_simp;rfl));(case hp=>exact (iI.c3 (show Kd.M BC _ _ _ (⟨(⟨#[83,73,90,69]⟩:ByteArray),(⟨#[57]⟩:ByteArray),true⟩:gI) [.string (⟨#[83,73,90,69]⟩:ByteArray),.string (⟨#[57]⟩:ByteArray),.bool true] from (Ki _ _ _ (⟨(⟨#[83,73,90,69]⟩:ByteArray),(⟨#[57]⟩:ByteArray),true⟩:gI))) (iI.c3 (show Kd.M BC _ _ _ (⟨(⟨#[66,79,68,89]⟩:ByteArray),(⟨#[]⟩:ByteArray),false⟩:gI) [.string (⟨#[66,79,68,89]⟩:ByteArray),.string (⟨#[]⟩:ByteArray),.bool false] from (Ki _ _ _ (⟨(⟨#[66,79,68,89]⟩:ByteArray),(⟨#[]⟩:ByteArray),false⟩:gI))) (iI.none _ _))));intro atf BF XR hb hg_ XQ;clear hg_ XQ;(first|rw [← acg.out] at XR|(simp only [Int.reduceToNat] at XR;rw [← acg.out] at XR));have bI:=ah.mk (Kd.dA wR hb);have bP:=ah.mk (Kd.gv XR (dK pK));have cw:=ah.mk (aR (g:=nO) (o:= .cells #[.bool false,.slice none 0 0,.string (⟨#[65]⟩:ByteArray),.string (⟨#[98,46,99]⟩:ByteArray),.bool false] 32 (0,0)) Dq hb);have cW:=ah.mk (az pK hb);clear vX;clear jZ;clear HB;have vX:=bI;have yu:=bP;have jZ:=cw;have HB:=cW;clear bI bP cw cW;clear hb XR;obtain ⟨atg,ath,aoM⟩:=Kd.eB yu.out;subst aoM)|(go_at_call 16;guard_target=Calls _ _ #[.string (⟨#[109,97,105,108,32,102,114,111,109,58,60,65,64,66,46,99,62,32,115,105,122,101,61,57,32,66,79,68,89]⟩:ByteArray),_] _ _;(refine (bF.calls k1 (⟨#[109,97,105,108,32,102,114,111,109,58,60,65,64,66,46,99,62,32,115,105,122,101,61,57,32,66,79,68,89]⟩:ByteArray) 3 (⟨#[]⟩:ByteArray) false _ _ ([]:List ByteArray) (⟨#[65]⟩:ByteArray) (⟨#[98,46,99]⟩:ByteArray) false _ _ agm true _ ?bg ?bY ?eI ?gP ?iV W7.out).mono ?_);(case bg=>exact Kd.AU _ _);(case bY=>exact Nat.le_refl _);(case eI=>repeat (first|exact (Kd.fD yu.out).2.2|(with_reducible refine Kd.dZ ?_ _)|(with_reducible refine Kd.eo ?_ _)|(with_reducible refine Kd.eZ ?_)));(case gP=>exact (Kd.fD yu.out).2.1);(case iV=>exact aW.below HG.out pK);rintro e w29 ⟨rfl,hb⟩;have bI:=ah.mk (Kd.dA wR hb);have bP:=ah.mk (Kd.dA Fe hb);have cw:=ah.mk (aR (g:=nO) (o:= .cells #[.bool false,.slice none 0 0,.string (⟨#[65]⟩:ByteArray),.string (⟨#[98,46,99]⟩:ByteArray),.bool false] 32 (0,0)) Dq hb);have cW:=ah.mk (az pK hb);clear vX;clear yu;clear jZ;clear HB;have vX:=bI;have yu:=bP;have jZ:=cw;have HB:=cW;clear bI bP cw cW;(try clear hb);(try clear hb2);(try clear hk);(try clear hi))|(go_at_call 16;guard_target=Calls _ _ #[.string (⟨#[69,72,76,79,32,88,46,121]⟩:ByteArray),_] _ _;(refine (bF.calls k1 (⟨#[69,72,76,79,32,88,46,121]⟩:ByteArray) 2 (⟨#[120,46,121]⟩:ByteArray) false _ _ ([]:List ByteArray) (⟨#[]⟩:ByteArray) (⟨#[]⟩:ByteArray) false _ _ ([]:List (gI)) true _ ?bg ?bY ?eI ?gP ?iV A16.out).mono ?_);(case bg=>exact Kd.AU _ _);(case bY=>exact Nat.le_refl _);(case eI=>exact Kd.AU _ _);(case gP=>exact Nat.le_refl _);(case iV=>exact aW.below HG.out pK);rintro e w30 ⟨rfl,hb⟩;have bI:=ah.mk (Kd.dA wR hb);have bP:=ah.mk (Kd.dA Fe hb);have cw:=ah.mk (aR (g:=nO) (o:= .cells #[.bool false,.slice none 0 0,.string (⟨#[65]⟩:ByteArray),.string (⟨#[98,46,99]⟩:ByteArray),.bool false] 32 (0,0)) Dq hb);have cW:=ah.mk (az pK hb);clear vX;clear yu;clear jZ;clear HB;have vX:=bI;have yu:=bP;have jZ:=cw;have HB:=cW;clear bI bP cw cW;(try clear hb);(try clear hb2);(try clear hk);(try clear hi))|(go_at_call 16;guard_target=Calls _ _ #[.string (⟨#[78,79,79,80]⟩:ByteArray),_] _ _;(refine (bF.calls k1 (⟨#[78,79,79,80]⟩:ByteArray) 9 (⟨#[]⟩:ByteArray) false _ _ ([]:List ByteArray) (⟨#[]⟩:ByteArray) (⟨#[]⟩:ByteArray) false _ _ ([]:List (gI)) true _ ?bg ?bY ?eI ?gP ?iV A18.out).mono ?_);(case bg=>exact Kd.AU _ _);(case bY=>exact Nat.le_refl _);(case eI=>exact Kd.AU _ _);(case gP=>exact Nat.le_refl _);(case iV=>exact aW.below HG.out pK);rintro e w31 ⟨rfl,hb⟩;have bI:=ah.mk (Kd.dA wR hb);have bP:=ah.mk (Kd.dA Fe hb);have cw:=ah.mk (aR (g:=nO) (o:= .cells #[.bool false,.slice none 0 0,.string (⟨#[65]⟩:ByteArray),.string (⟨#[98,46,99]⟩:ByteArray),.bool false] 32 (0,0)) Dq hb);have cW:=ah.mk (az pK hb);clear vX;clear yu;clear jZ;clear HB;have vX:=bI;have yu:=bP;have jZ:=cw;have HB:=cW;clear bI bP cw cW;(try clear hb);(try clear hb2);(try clear hk);(try clear hi))|(go_at_call 16;guard_target=Calls _ _ #[.string (⟨#[78,79,79,80,32,97,32,32,98]⟩:ByteArray),_] _ _;(refine (bF.calls k1 (⟨#[78,79,79,80,32,97,32,32,98]⟩:ByteArray) 9 (⟨#[97,32,32,98]⟩:ByteArray) false _ _ ([]:List ByteArray) (⟨#[]⟩:ByteArray) (⟨#[]⟩:ByteArray) false _ _ ([]:List (gI)) sQ _ ?bg ?bY ?eI ?gP ?iV oL.out).mono ?_);(case bg=>exact Kd.AU _ _);(case bY=>exact Nat.le_refl _);(case eI=>exact Kd.AU _ _);(case gP=>exact Nat.le_refl _);(case iV=>exact aW.below HG.out pK);rintro e Ek ⟨rfl,hb⟩;have bI:=ah.mk (Kd.dA wR hb);have bP:=ah.mk (Kd.dA Fe hb);have cw:=ah.mk (aR (g:=nO) (o:= .cells #[.bool false,.slice none 0 0,.string (⟨#[65]⟩:ByteArray),.string (⟨#[98,46,99]⟩:ByteArray),.bool false] 32 (0,0)) Dq hb);have cW:=ah.mk (az pK hb);clear vX;clear yu;clear jZ;clear HB;have vX:=bI;have yu:=bP;have jZ:=cw;have HB:=cW;clear bI bP cw cW;(try clear hb);(try clear hb2);(try clear hk);(try clear hi)))
         go_ret
         exact ⟨cU,pK⟩
        ·replace c19:=Bool.eq_false_iff.mpr c19
         subst c19
         have H1:(none)=some r:=by rw [if_neg (show ¬ (false=true) by decide)] at H;exact H
         clear H
         have H:=H1
         clear H1
         exact absurd H bf
       ·replace c17:=Bool.eq_false_iff.mpr c17
        subst c17
        have H1:(none)=some r:=by rw [if_neg (show ¬ (false=true) by decide)] at H;exact H
        clear H
        have H:=H1
        clear H1
        exact absurd H bf
      ·replace c15:=Bool.eq_false_iff.mpr c15
       subst c15
       have H1:(none)=some r:=by rw [if_neg (show ¬ (false=true) by decide)] at H;exact H
       clear H
       have H:=H1
       clear H1
       exact absurd H bf
     ·replace c13:=Bool.eq_false_iff.mpr c13
      subst c13
      have H1:(none)=some r:=by rw [if_neg (show ¬ (false=true) by decide)] at H;exact H
      clear H
      have H:=H1
      clear H1
      exact absurd H bf
    ·replace c11:=Bool.eq_false_iff.mpr c11
     subst c11
     have H1:(none)=some r:=by rw [if_neg (show ¬ (false=true) by decide)] at H;exact H
     clear H
     have H:=H1
     clear H1
     exact absurd H bf
def kL.f (k:Nat) (a0:ByteArray):Option (Bool):=(fu.f k a0).bind fun U0=>(if U0=true then ((cE.f a0).bind fun IP=>(some (IP.toList == a0.toList))) else (some false))
theorem kL.calls (k:Nat) (a0:ByteArray) (r:Bool) (w:World) (hG:aW w) (h:kL.f k a0=some r):
 Calls Tryz.prog 65 #[.string a0] w fun e w'=>e= .returned (.bool r)∧Below w.heap.size w w':=by
 have HB:=ah.mk (Below.refl w.heap.size w)
 have HG:=ah.mk hG
 clear hG
 have H:((fu.f k a0).bind fun U0=>(if U0=true then ((cE.f a0).bind fun IP=>(some (IP.toList == a0.toList))) else (some false)))=some r:=h
 clear h
 replace H:=Option.bind_eq_some_iff.mp H
 obtain ⟨U0,oL,H⟩:=H
 replace H:(if U0=true then ((cE.f a0).bind fun IP=>(some (IP.toList == a0.toList))) else (some false))=some r:=H
 have A2:=ah.mk oL
 clear oL
 by_cases c3:U0=true
 ·subst c3
  have H1:((cE.f a0).bind fun IP=>(some (IP.toList == a0.toList)))=some r:=by rw [if_pos rfl] at H;exact H
  clear H
  have H:=H1
  clear H1
  replace H:=Option.bind_eq_some_iff.mp H
  obtain ⟨IP,Ef,H⟩:=H
  replace H:(some (IP.toList == a0.toList))=some r:=H
  have A4:=ah.mk Ef
  clear Ef
  obtain rfl:=Option.some.inj H
  go_enter Tryz.func65,Tryz.ntmps65
  go_wp2_with (first|((with_reducible refine aT (f:=25) rfl ?_);refine cC (some 4) rfl rfl Tryz.func25 av rfl #[.string a0] rfl cY ?_;(with_reducible refine (fu.calls k a0 true _ ?bg A2.out).mono ?_);(case bg=>exact aW.below HG.out cA);rintro e w5 ⟨rfl,hb⟩;refine ⟨_,rfl,?_⟩;have bI:=ah.mk (az cA hb);clear HB;have HB:=bI;clear bI;(try clear hb);(try clear hb2);(try clear hk);(try clear hi))|(go_at_call 81;(with_reducible refine (cE.calls a0 IP _ A4.out).mono ?_);rintro e w6 ⟨rfl,hb⟩;have bI:=ah.mk (az cA hb);clear HB;have HB:=bI;clear bI;(try clear hb);(try clear hb2);(try clear hk);(try clear hi)))
  go_ret
  exact ⟨cU,cA⟩
 ·replace c3:=Bool.eq_false_iff.mpr c3
  subst c3
  have H1:(some false)=some r:=by rw [if_neg (show ¬ (false=true) by decide)] at H;exact H
  clear H
  have H:=H1
  clear H1
  obtain rfl:=Option.some.inj H
  go_enter Tryz.func65,Tryz.ntmps65
  go_wp2_with (first|((with_reducible refine aT (f:=25) rfl ?_);refine cC (some 4) rfl rfl Tryz.func25 av rfl #[.string a0] rfl cY ?_;(with_reducible refine (fu.calls k a0 false _ ?bg A2.out).mono ?_);(case bg=>exact aW.below HG.out cA);rintro e w7 ⟨rfl,hb⟩;refine ⟨_,rfl,?_⟩;have bI:=ah.mk (az cA hb);clear HB;have HB:=bI;clear bI;(try clear hb);(try clear hb2);(try clear hk);(try clear hi)))
  go_ret
  exact ⟨cU,cA⟩
end Go.Proofs.YtokpnfljjjjikaaGreatDoor.n9
