import Derived.Test.YtokpnfljjjjikaaGreatDoorQPtx20
set_option maxHeartbeats 8000000
set_option maxRecDepth 100000
namespace Go.Proofs.YtokpnfljjjjikaaGreatDoor.mY
open Go.RowKit Go.Proofs.YtokpnfljjjjikaaGreatDoor.qP Go.Proofs.aj.bO Go.Proofs.aj.fA Go.Proofs.aj.cK
attribute [local go_sem] ia ig iU iV gf gh ij iq
set_option linter.unusedVariables false
set_option linter.unusedSimpArgs false
def fK.f (k:Nat) (a0:ByteArray):Option (Bool):=(aQ.f k a0).bind fun Xr=>(if Xr=true then ((bE.f k a0).bind fun Xt=>(some Xt)) else (some false))
theorem fK.mono:∀ a0 k,bL (fK.f k a0) (fK.f (k + 1) a0):=by
 intro a0 k
 unfold fK.f
 repeat' first
  |(with_reducible first|exact aQ.mono _ _|exact bE.mono _ _|exact bL.refl _|exact bL.none _|refine bL.ite ?_ ?_|refine bL.bind ?_ (fun _ =>?_))
  |exact aQ.mono _ _
  |exact bE.mono _ _
  |exact bL.none _
  |refine bL.ite ?_ ?_
  |refine bL.bind ?_ (fun _ =>?_)
theorem fK.calls (k:Nat) (a0:ByteArray) (r:Bool) (w:World) (hG:aJ w) (h:fK.f k a0=some r):
 Calls Tryz.prog 26 #[.string a0] w fun e w'=>e= .returned (.bool r)∧Below w.heap.size w w':=by
 have HB:=aa.mk (Below.refl w.heap.size w)
 have HG:=aa.mk hG
 clear hG
 have H:((aQ.f k a0).bind fun Xr=>(if Xr=true then ((bE.f k a0).bind fun Xt=>(some Xt)) else (some false)))=some r:=h
 clear h
 obtain ⟨Xr,A2,H⟩:=bd_ H
 by_cases c3:Xr=true
 ·subst c3
  rw [if_pos rfl] at H
  obtain ⟨Xt,A4,H⟩:=bd_ H
  obtain rfl:=Option.some.inj H
  go_enter Tryz.func26,Tryz.ntmps26
  go_wp2_with (first|((with_reducible refine aK (f:=76) rfl ?_);refine bU (some 4) rfl rfl Tryz.func76 aq rfl #[.string a0] rfl cz ?_;(with_reducible refine (aQ.calls k a0 true _ ?aT A2.out).mono ?_);(case aT=>exact aJ.below HG.out bG);rintro e w5 ⟨rfl,hb⟩;refine ⟨_,rfl,?_⟩;replace HB:=aa.mk (aA bG hb);(try clear hb))|(go_at_call 77;(with_reducible refine (bE.calls k a0 Xt _ ?aT A4.out).mono ?_);(case aT=>exact aJ.below HG.out bG);rintro e w6 ⟨rfl,hb⟩;replace HB:=aa.mk (aA bG hb);(try clear hb)))
  go_ret
  exact ⟨cH,bG⟩
 ·replace c3:=Bool.eq_false_iff.mpr c3
  subst c3
  rw [if_neg (show ¬ (false=true) by decide)] at H
  obtain rfl:=Option.some.inj H
  go_enter Tryz.func26,Tryz.ntmps26
  go_wp2_with (first|((with_reducible refine aK (f:=76) rfl ?_);refine bU (some 4) rfl rfl Tryz.func76 aq rfl #[.string a0] rfl cz ?_;(with_reducible refine (aQ.calls k a0 false _ ?aT A2.out).mono ?_);(case aT=>exact aJ.below HG.out bG);rintro e w7 ⟨rfl,hb⟩;refine ⟨_,rfl,?_⟩;replace HB:=aa.mk (aA bG hb);(try clear hb)))
  go_ret
  exact ⟨cH,bG⟩
def fQ.f (k:Nat) (a0:ByteArray):Option (ByteArray×ByteArray×Bool×Int):=(bI.f k a0).bind fun sY=>(if sY.2.2.2=true then ((cF.f k sY.1 sY.2.1 sY.2.2.1).bind fun OX=>(if OX=true then (some (sY.1,sY.2.1,sY.2.2.1,0)) else (some ((⟨#[]⟩:ByteArray),(⟨#[]⟩:ByteArray),false,3)))) else (some ((⟨#[]⟩:ByteArray),(⟨#[]⟩:ByteArray),false,150)))
theorem fQ.mono:∀ a0 k,bL (fQ.f k a0) (fQ.f (k + 1) a0):=by
 intro a0 k
 unfold fQ.f
 repeat' first
  |(with_reducible first|exact bI.mono _ _|exact cF.mono _ _ _ _|exact bL.refl _|exact bL.none _|refine bL.ite ?_ ?_|refine bL.bind ?_ (fun _ =>?_))
  |exact bI.mono _ _
  |exact cF.mono _ _ _ _
  |exact bL.none _
  |refine bL.ite ?_ ?_
  |refine bL.bind ?_ (fun _ =>?_)
theorem fQ.calls (k:Nat) (a0:ByteArray) (r1:ByteArray) (r2:ByteArray) (r3:Bool) (r4:Int) (w:World) (hG:aJ w) (h:fQ.f k a0=some (r1,r2,r3,r4)):
 Calls Tryz.prog 29 #[.string a0] w fun e w'=>e= .returned (.tuple #[.agg #[.string r1,.string r2,.bool r3],.int .i64 r4])∧Below w.heap.size w w':=by
 have wT:=Tryz.underlying30
 have HB:=aa.mk (Below.refl w.heap.size w)
 have HG:=aa.mk hG
 clear hG
 have H:((bI.f k a0).bind fun sY=>(if sY.2.2.2=true then ((cF.f k sY.1 sY.2.1 sY.2.2.1).bind fun OX=>(if OX=true then (some (sY.1,sY.2.1,sY.2.2.1,0)) else (some ((⟨#[]⟩:ByteArray),(⟨#[]⟩:ByteArray),false,3)))) else (some ((⟨#[]⟩:ByteArray),(⟨#[]⟩:ByteArray),false,150))))=some (r1,r2,r3,r4):=h
 clear h
 obtain ⟨⟨zw,B6,FW,aqu⟩,A2,H⟩:=bd_ H
 (try dsimp only at H)
 by_cases c3:aqu=true
 ·subst c3
  rw [if_pos rfl] at H
  obtain ⟨OX,A4,H⟩:=bd_ H
  by_cases c5:OX=true
  ·subst c5
   rw [if_pos rfl] at H
   simp only [Option.some.injEq,Prod.mk.injEq] at H
   obtain ⟨rfl,rfl,rfl,rfl⟩:=H
   go_enter Tryz.func29,Tryz.ntmps29
   go_wp2_with (first|((with_reducible refine cB (N:=2) rfl ?_);refine cj ?hg (N:=2) ?hd (cs:=#[.string (⟨#[]⟩:ByteArray),.string (⟨#[]⟩:ByteArray),.bool false]) (t:=30) ?hr ?_;(case hd=>rfl);(case hg=>rfl);(case hr=>first|(go_simp;done)|(go_simp;rfl));intro mo hg w6 cE hb;have kG:=aa.mk (cE);have acF:=aa.mk ((dI:w.heap.size≤mo));have Lh:=aa.mk ((dI:w.heap.size≤mo));replace HB:=aa.mk (aA bG hb);clear hb cE hg)|((with_reducible refine aK (f:=78) rfl ?_);refine bU (some 8) rfl rfl Tryz.func78 aq rfl #[.string a0] rfl cz ?_;(with_reducible refine (bI.calls k a0 zw B6 FW true _ ?aT A2.out).mono ?_);(case aT=>exact aJ.below HG.out uJ);rintro e w7 ⟨rfl,hb⟩;refine ⟨_,rfl,?_⟩;replace kG:=aa.mk (aC BP hb);replace HB:=aa.mk (aA uJ hb);(try clear hb))|((with_reducible refine cB (N:=4) rfl ?_);refine cj ?hg (N:=4) ?hd (cs:=#[.string (⟨#[]⟩:ByteArray),.string (⟨#[]⟩:ByteArray),.bool false]) (t:=30) ?hr ?_;(case hd=>rfl);(case hg=>rfl);(case hr=>first|(go_simp;done)|(go_simp;rfl));intro mq hg w8 cE hb;have lZ:=aa.mk (cE);have acG:=aa.mk ((BR:w.heap.size≤mq));have UX:=aa.mk ((BR:w.heap.size≤mq));replace HB:=aa.mk (aA uJ hb);have mC:=aa.mk ((IX:mo≠mq));have uB:=aa.mk ((IY:mq≠mo));replace kG:=aa.mk (aC BP hb);clear hb cE hg;have apC:=uB.out;have apD:=mC.out;have Es:w8.cell? ⟨mq,0,none⟩=some (.string (⟨#[]⟩:ByteArray)):=(ah lZ.out 0).trans rfl;have Et:w8.cell? ⟨mq,1,none⟩=some (.string (⟨#[]⟩:ByteArray)):=(ah lZ.out 1).trans rfl;have Eu:w8.cell? ⟨mq,2,none⟩=some (.bool false):=(ah lZ.out 2).trans rfl;have Ew:=af lZ.out 0;have Ex:=af lZ.out 1;have Ey:=af lZ.out 2)|((with_reducible refine aK (f:=79) rfl ?_);refine bU (some 15) rfl rfl Tryz.func79 aq rfl #[.agg #[.string zw,.string B6,.bool FW]] rfl cz ?_;(with_reducible refine (cF.calls k zw B6 FW true _ ?aT A4.out).mono ?_);(case aT=>exact aJ.below HG.out zo);rintro e UJ ⟨rfl,hb⟩;refine ⟨_,rfl,?_⟩;replace kG:=aa.mk (aC (g:=mo) (o:= .cells #[.string (⟨#[]⟩:ByteArray),.string (⟨#[]⟩:ByteArray),.bool false] 30 (0,0)) P9 hb);replace lZ:=aa.mk (aC (g:=mq) (o:= .cells #[.string zw,.string B6,.bool FW] 30 (0,0)) PV hb);replace HB:=aa.mk (aA zo hb);(try clear hb);have yu:UJ.cell? ⟨mq,0,none⟩=some (.string zw):=(ah lZ.out 0).trans rfl;have yw:UJ.cell? ⟨mq,1,none⟩=some (.string B6):=(ah lZ.out 1).trans rfl;have Ei:UJ.cell? ⟨mq,2,none⟩=some (.bool FW):=(ah lZ.out 2).trans rfl;have yx:=af lZ.out 0;have yz:=af lZ.out 1;have Ej:=af lZ.out 2;have qD:UJ.cell? ⟨mo,0,none⟩=some (.string (⟨#[]⟩:ByteArray)):=(ah kG.out 0).trans rfl;have qE:UJ.cell? ⟨mo,1,none⟩=some (.string (⟨#[]⟩:ByteArray)):=(ah kG.out 1).trans rfl;have vo:UJ.cell? ⟨mo,2,none⟩=some (.bool false):=(ah kG.out 2).trans rfl;have qF:=af kG.out 0;have qG:=af kG.out 1;have vp:=af kG.out 2))
   refine bodyPost_ret (eY rfl _ _ mo 30 #[.string zw,.string B6,.bool FW] (0,0) _ rfl (by (with_reducible repeat (first|refine ay ?_ _|refine az ?_|refine av ?_ _));refine bR (cs:=#[.string zw,.string B6,.bool false]) ?_ 2 _ rfl;(with_reducible repeat (first|refine ay ?_ _|refine az ?_|refine av ?_ _));refine bR (cs:=#[.string zw,.string (⟨#[]⟩:ByteArray),.bool false]) ?_ 1 _ rfl;(with_reducible repeat (first|refine ay ?_ _|refine az ?_|refine av ?_ _));refine bR (cs:=#[.string (⟨#[]⟩:ByteArray),.string (⟨#[]⟩:ByteArray),.bool false]) ?_ 0 _ rfl;(with_reducible repeat (first|refine ay ?_ _|refine az ?_|refine av ?_ _));exact kG.out) Tryz.underlying30 rfl aq) rfl ?_
   exact ⟨cH,zo⟩
  ·replace c5:=Bool.eq_false_iff.mpr c5
   subst c5
   rw [if_neg (show ¬ (false=true) by decide)] at H
   simp only [Option.some.injEq,Prod.mk.injEq] at H
   obtain ⟨rfl,rfl,rfl,rfl⟩:=H
   go_enter Tryz.func29,Tryz.ntmps29
   go_wp2_with (first|((with_reducible refine cB (N:=2) rfl ?_);refine cj ?hg (N:=2) ?hd (cs:=#[.string (⟨#[]⟩:ByteArray),.string (⟨#[]⟩:ByteArray),.bool false]) (t:=30) ?hr ?_;(case hd=>rfl);(case hg=>rfl);(case hr=>first|(go_simp;done)|(go_simp;rfl));intro mo hg w14 cE hb;have kG:=aa.mk (cE);have acF:=aa.mk ((dI:w.heap.size≤mo));have Lh:=aa.mk ((dI:w.heap.size≤mo));replace HB:=aa.mk (aA bG hb);clear hb cE hg)|((with_reducible refine aK (f:=78) rfl ?_);refine bU (some 8) rfl rfl Tryz.func78 aq rfl #[.string a0] rfl cz ?_;(with_reducible refine (bI.calls k a0 zw B6 FW true _ ?aT A2.out).mono ?_);(case aT=>exact aJ.below HG.out uJ);rintro e QX ⟨rfl,hb⟩;refine ⟨_,rfl,?_⟩;replace kG:=aa.mk (aC BP hb);replace HB:=aa.mk (aA uJ hb);(try clear hb))|((with_reducible refine cB (N:=4) rfl ?_);refine cj ?hg (N:=4) ?hd (cs:=#[.string (⟨#[]⟩:ByteArray),.string (⟨#[]⟩:ByteArray),.bool false]) (t:=30) ?hr ?_;(case hd=>rfl);(case hg=>rfl);(case hr=>first|(go_simp;done)|(go_simp;rfl));intro mq hg G5 cE hb;have lZ:=aa.mk (cE);have acG:=aa.mk ((BR:w.heap.size≤mq));have UX:=aa.mk ((BR:w.heap.size≤mq));replace HB:=aa.mk (aA uJ hb);have mC:=aa.mk ((IX:mo≠mq));have uB:=aa.mk ((IY:mq≠mo));replace kG:=aa.mk (aC BP hb);clear hb cE hg;have ain:=uB.out;have aio:=mC.out;have Jz:G5.cell? ⟨mq,0,none⟩=some (.string (⟨#[]⟩:ByteArray)):=(ah lZ.out 0).trans rfl;have JA:G5.cell? ⟨mq,1,none⟩=some (.string (⟨#[]⟩:ByteArray)):=(ah lZ.out 1).trans rfl;have RX:G5.cell? ⟨mq,2,none⟩=some (.bool false):=(ah lZ.out 2).trans rfl;have JB:=af lZ.out 0;have JC:=af lZ.out 1;have RY:=af lZ.out 2)|((with_reducible refine aK (f:=79) rfl ?_);refine bU (some 15) rfl rfl Tryz.func79 aq rfl #[.agg #[.string zw,.string B6,.bool FW]] rfl cz ?_;(with_reducible refine (cF.calls k zw B6 FW false _ ?aT A4.out).mono ?_);(case aT=>exact aJ.below HG.out zo);rintro e w19 ⟨rfl,hb⟩;refine ⟨_,rfl,?_⟩;replace kG:=aa.mk (aC (g:=mo) (o:= .cells #[.string (⟨#[]⟩:ByteArray),.string (⟨#[]⟩:ByteArray),.bool false] 30 (0,0)) P9 hb);replace lZ:=aa.mk (aC (g:=mq) (o:= .cells #[.string zw,.string B6,.bool FW] 30 (0,0)) PV hb);replace HB:=aa.mk (aA zo hb);(try clear hb);have Ea:w19.cell? ⟨mo,0,none⟩=some (.string (⟨#[]⟩:ByteArray)):=(ah kG.out 0).trans rfl;have Eb:w19.cell? ⟨mo,1,none⟩=some (.string (⟨#[]⟩:ByteArray)):=(ah kG.out 1).trans rfl;have RP:w19.cell? ⟨mo,2,none⟩=some (.bool false):=(ah kG.out 2).trans rfl;have Ec:=af kG.out 0;have Ed:=af kG.out 1;have RQ:=af kG.out 2))
   refine bodyPost_ret (eY rfl _ _ mo 30 #[.string (⟨#[]⟩:ByteArray),.string (⟨#[]⟩:ByteArray),.bool false] (0,0) _ rfl (by (with_reducible repeat (first|refine ay ?_ _|refine az ?_|refine av ?_ _));refine bR (cs:=#[.string (⟨#[]⟩:ByteArray),.string (⟨#[]⟩:ByteArray),.bool false]) ?_ 2 _ rfl;(with_reducible repeat (first|refine ay ?_ _|refine az ?_|refine av ?_ _));refine bR (cs:=#[.string (⟨#[]⟩:ByteArray),.string (⟨#[]⟩:ByteArray),.bool false]) ?_ 1 _ rfl;(with_reducible repeat (first|refine ay ?_ _|refine az ?_|refine av ?_ _));refine bR (cs:=#[.string (⟨#[]⟩:ByteArray),.string (⟨#[]⟩:ByteArray),.bool false]) ?_ 0 _ rfl;(with_reducible repeat (first|refine ay ?_ _|refine az ?_|refine av ?_ _));exact kG.out) Tryz.underlying30 rfl aq) rfl ?_
   exact ⟨cH,zo⟩
 ·replace c3:=Bool.eq_false_iff.mpr c3
  subst c3
  rw [if_neg (show ¬ (false=true) by decide)] at H
  simp only [Option.some.injEq,Prod.mk.injEq] at H
  obtain ⟨rfl,rfl,rfl,rfl⟩:=H
  go_enter Tryz.func29,Tryz.ntmps29
  go_wp2_with (first|((with_reducible refine cB (N:=2) rfl ?_);refine cj ?hg (N:=2) ?hd (cs:=#[.string (⟨#[]⟩:ByteArray),.string (⟨#[]⟩:ByteArray),.bool false]) (t:=30) ?hr ?_;(case hd=>rfl);(case hg=>rfl);(case hr=>first|(go_simp;done)|(go_simp;rfl));intro mo hg w21 cE hb;have kG:=aa.mk (cE);have acF:=aa.mk ((dI:w.heap.size≤mo));have Lh:=aa.mk ((dI:w.heap.size≤mo));replace HB:=aa.mk (aA bG hb);clear hb cE hg)|((with_reducible refine aK (f:=78) rfl ?_);refine bU (some 8) rfl rfl Tryz.func78 aq rfl #[.string a0] rfl cz ?_;(with_reducible refine (bI.calls k a0 zw B6 FW false _ ?aT A2.out).mono ?_);(case aT=>exact aJ.below HG.out uJ);rintro e BN ⟨rfl,hb⟩;refine ⟨_,rfl,?_⟩;replace kG:=aa.mk (aC BP hb);replace HB:=aa.mk (aA uJ hb);(try clear hb))|((with_reducible refine cB (N:=4) rfl ?_);refine cj ?hg (N:=4) ?hd (cs:=#[.string (⟨#[]⟩:ByteArray),.string (⟨#[]⟩:ByteArray),.bool false]) (t:=30) ?hr ?_;(case hd=>rfl);(case hg=>rfl);(case hr=>first|(go_simp;done)|(go_simp;rfl));intro mq hg Q4 cE hb;have lZ:=aa.mk (cE);have acG:=aa.mk ((BR:w.heap.size≤mq));have UX:=aa.mk ((BR:w.heap.size≤mq));replace HB:=aa.mk (aA uJ hb);have mC:=aa.mk ((IX:mo≠mq));have uB:=aa.mk ((IY:mq≠mo));replace kG:=aa.mk (aC BP hb);clear hb cE hg;have abL:=uB.out;have abM:=mC.out;have yc:Q4.cell? ⟨mq,0,none⟩=some (.string (⟨#[]⟩:ByteArray)):=(ah lZ.out 0).trans rfl;have yf:Q4.cell? ⟨mq,1,none⟩=some (.string (⟨#[]⟩:ByteArray)):=(ah lZ.out 1).trans rfl;have yg:Q4.cell? ⟨mq,2,none⟩=some (.bool false):=(ah lZ.out 2).trans rfl;have yh:=af lZ.out 0;have yj:=af lZ.out 1;have yl:=af lZ.out 2;have Kf:Q4.cell? ⟨mo,0,none⟩=some (.string (⟨#[]⟩:ByteArray)):=(ah kG.out 0).trans rfl;have Kg:Q4.cell? ⟨mo,1,none⟩=some (.string (⟨#[]⟩:ByteArray)):=(ah kG.out 1).trans rfl;have Kh:Q4.cell? ⟨mo,2,none⟩=some (.bool false):=(ah kG.out 2).trans rfl;have Ki:=af kG.out 0;have Kj:=af kG.out 1;have Kk:=af kG.out 2))
  refine bodyPost_ret (eY rfl _ _ mo 30 #[.string (⟨#[]⟩:ByteArray),.string (⟨#[]⟩:ByteArray),.bool false] (0,0) _ rfl (by (with_reducible repeat (first|refine ay ?_ _|refine az ?_|refine av ?_ _));refine bR (cs:=#[.string (⟨#[]⟩:ByteArray),.string (⟨#[]⟩:ByteArray),.bool false]) ?_ 2 _ rfl;(with_reducible repeat (first|refine ay ?_ _|refine az ?_|refine av ?_ _));refine bR (cs:=#[.string (⟨#[]⟩:ByteArray),.string (⟨#[]⟩:ByteArray),.bool false]) ?_ 1 _ rfl;(with_reducible repeat (first|refine ay ?_ _|refine az ?_|refine av ?_ _));refine bR (cs:=#[.string (⟨#[]⟩:ByteArray),.string (⟨#[]⟩:ByteArray),.bool false]) ?_ 0 _ rfl;(with_reducible repeat (first|refine ay ?_ _|refine az ?_|refine av ?_ _));refine cQ ?_ mC.out _;(with_reducible repeat (first|refine ay ?_ _|refine az ?_|refine av ?_ _));refine cQ ?_ mC.out _;(with_reducible repeat (first|refine ay ?_ _|refine az ?_|refine av ?_ _));refine cQ ?_ mC.out _;(with_reducible repeat (first|refine ay ?_ _|refine az ?_|refine av ?_ _));exact kG.out) Tryz.underlying30 rfl aq) rfl ?_
  exact ⟨cH,zo⟩
def bH.l0:Nat→ByteArray→Int→ByteArray→ByteArray→Bool→Option (ByteArray)
 | 0,_,_,_,_,_ =>none
 |k + 1,x3,x4,mV,tR,EB=>if x4 < (mV.size:Int) then (if 0≤x4 then (if (bt mV x4)=34 then (if x3.size + 1≤9223372036854775807 then (if x4≤(wrap64 (x4 + 1)) then (if (wrap64 (x4 + 1))≤(mV.size:Int) then (if (x3 ++ (⟨#[92]⟩:ByteArray)).size + (mV.extract (x4:Int).toNat ((wrap64 (x4 + 1)):Int).toNat).size≤9223372036854775807 then (bH.l0 k ((x3 ++ (⟨#[92]⟩:ByteArray)) ++ (mV.extract (x4:Int).toNat ((wrap64 (x4 + 1)):Int).toNat)) (wrap64 (x4 + 1)) mV tR EB) else (none)) else (none)) else (none)) else (none)) else (if (bt mV x4)=92 then (if x3.size + 1≤9223372036854775807 then (if x4≤(wrap64 (x4 + 1)) then (if (wrap64 (x4 + 1))≤(mV.size:Int) then (if (x3 ++ (⟨#[92]⟩:ByteArray)).size + (mV.extract (x4:Int).toNat ((wrap64 (x4 + 1)):Int).toNat).size≤9223372036854775807 then (bH.l0 k ((x3 ++ (⟨#[92]⟩:ByteArray)) ++ (mV.extract (x4:Int).toNat ((wrap64 (x4 + 1)):Int).toNat)) (wrap64 (x4 + 1)) mV tR EB) else (none)) else (none)) else (none)) else (none)) else (if x4≤(wrap64 (x4 + 1)) then (if (wrap64 (x4 + 1))≤(mV.size:Int) then (if x3.size + (mV.extract (x4:Int).toNat ((wrap64 (x4 + 1)):Int).toNat).size≤9223372036854775807 then (bH.l0 k (x3 ++ (mV.extract (x4:Int).toNat ((wrap64 (x4 + 1)):Int).toNat)) (wrap64 (x4 + 1)) mV tR EB) else (none)) else (none)) else (none)))) else (none)) else (if x3.size + 1≤9223372036854775807 then (if EB=true then (if (x3 ++ (⟨#[34]⟩:ByteArray)).size + 2≤9223372036854775807 then (if ((x3 ++ (⟨#[34]⟩:ByteArray)) ++ (⟨#[64,91]⟩:ByteArray)).size + tR.size≤9223372036854775807 then (if (((x3 ++ (⟨#[34]⟩:ByteArray)) ++ (⟨#[64,91]⟩:ByteArray)) ++ tR).size + 1≤9223372036854775807 then (some ((((x3 ++ (⟨#[34]⟩:ByteArray)) ++ (⟨#[64,91]⟩:ByteArray)) ++ tR) ++ (⟨#[93]⟩:ByteArray))) else (none)) else (none)) else (none)) else (if (x3 ++ (⟨#[34]⟩:ByteArray)).size + 1≤9223372036854775807 then (if ((x3 ++ (⟨#[34]⟩:ByteArray)) ++ (⟨#[64]⟩:ByteArray)).size + tR.size≤9223372036854775807 then (some (((x3 ++ (⟨#[34]⟩:ByteArray)) ++ (⟨#[64]⟩:ByteArray)) ++ tR)) else (none)) else (none))) else (none))
def bH.f (k:Nat) (bS:ByteArray) (dZ:ByteArray) (cg:Bool):Option (ByteArray):=(bz.f k bS).bind fun Xu=>(if Xu=true then (if cg=true then (if bS.size + 2≤9223372036854775807 then (if (bS ++ (⟨#[64,91]⟩:ByteArray)).size + dZ.size≤9223372036854775807 then (if ((bS ++ (⟨#[64,91]⟩:ByteArray)) ++ dZ).size + 1≤9223372036854775807 then (some (((bS ++ (⟨#[64,91]⟩:ByteArray)) ++ dZ) ++ (⟨#[93]⟩:ByteArray))) else (none)) else (none)) else (none)) else (if bS.size + 1≤9223372036854775807 then (if (bS ++ (⟨#[64]⟩:ByteArray)).size + dZ.size≤9223372036854775807 then (some ((bS ++ (⟨#[64]⟩:ByteArray)) ++ dZ)) else (none)) else (none))) else (bH.l0 k (⟨#[34]⟩:ByteArray) 0 bS dZ cg))
theorem bH.dF:∀ k,(∀ y0 y1 y2 y3 y4,bL (bH.l0 k y0 y1 y2 y3 y4) (bH.l0 (k + 1) y0 y1 y2 y3 y4))
 | 0=>fun _ _ _ _ _ r h=>by simp [bH.l0] at h
 |k + 1=>by
  have fV:=bH.dF k
  ·intro y0 y1 y2 y3 y4
   unfold bH.l0
   repeat' first
   |(with_reducible first|exact fV _ _ _ _ _|exact bz.mono _ _|exact bL.refl _|exact bL.none _|refine bL.ite ?_ ?_|refine bL.bind ?_ (fun _ =>?_))
   |exact fV _ _ _ _ _
   |exact bz.mono _ _
   |exact bL.none _
   |refine bL.ite ?_ ?_
   |refine bL.bind ?_ (fun _ =>?_)
theorem bH.mono:∀ a0 a1 a2 k,bL (bH.f k a0 a1 a2) (bH.f (k + 1) a0 a1 a2):=by
 intro a0 a1 a2 k
 have fV:=bH.dF k
 unfold bH.f
 repeat' first
  |(with_reducible first|exact fV _ _ _ _ _|exact bz.mono _ _|exact bL.refl _|exact bL.none _|refine bL.ite ?_ ?_|refine bL.bind ?_ (fun _ =>?_))
  |exact fV _ _ _ _ _
  |exact bz.mono _ _
  |exact bL.none _
  |refine bL.ite ?_ ?_
  |refine bL.bind ?_ (fun _ =>?_)
theorem bH.calls (k:Nat) (bS:ByteArray) (dZ:ByteArray) (cg:Bool) (r:ByteArray) (w:World) (h:bH.f k bS dZ cg=some r):
 Calls Tryz.prog 88 #[.agg #[.string bS,.string dZ,.bool cg]] w fun e w'=>e= .returned (.string r)∧Below w.heap.size w w':=by
 have wT:=Tryz.underlying30
 have HB:=aa.mk (Below.refl w.heap.size w)
 have H:((bz.f k bS).bind fun Xu=>(if Xu=true then (if cg=true then (if bS.size + 2≤9223372036854775807 then (if (bS ++ (⟨#[64,91]⟩:ByteArray)).size + dZ.size≤9223372036854775807 then (if ((bS ++ (⟨#[64,91]⟩:ByteArray)) ++ dZ).size + 1≤9223372036854775807 then (some (((bS ++ (⟨#[64,91]⟩:ByteArray)) ++ dZ) ++ (⟨#[93]⟩:ByteArray))) else (none)) else (none)) else (none)) else (if bS.size + 1≤9223372036854775807 then (if (bS ++ (⟨#[64]⟩:ByteArray)).size + dZ.size≤9223372036854775807 then (some ((bS ++ (⟨#[64]⟩:ByteArray)) ++ dZ)) else (none)) else (none))) else (bH.l0 k (⟨#[34]⟩:ByteArray) 0 bS dZ cg)))=some r:=h
 clear h
 obtain ⟨Xu,A2,H⟩:=bd_ H
 by_cases c3:Xu=true
 ·subst c3
  rw [if_pos rfl] at H
  by_cases c4:cg=true
  ·subst c4
   rw [if_pos rfl] at H
   obtain ⟨c5,H⟩:=iA H
   have lF:=eq_true c5
   have Cf:=decide_eq_true c5
   try have awr:(9223372036854775807 < bS.size + 2)=False:=eq_false (Nat.not_lt.2 c5)
   obtain ⟨c6,H⟩:=iA H
   have nL:=eq_true c6
   have wK:=decide_eq_true c6
   try have V6:(9223372036854775807 < (bS ++ (⟨#[64,91]⟩:ByteArray)).size + dZ.size)=False:=eq_false (Nat.not_lt.2 c6)
   try (have ZA:=V6;simp only [ByteArray.size_append] at ZA)
   try have aws:(9223372036854775807 < (bS.size + 2) + dZ.size)=False:=ZA
   obtain ⟨c7,H⟩:=iA H
   have TA:=eq_true c7
   have agO:=decide_eq_true c7
   try have aqv:(9223372036854775807 < ((bS ++ (⟨#[64,91]⟩:ByteArray)) ++ dZ).size + 1)=False:=eq_false (Nat.not_lt.2 c7)
   try (have aip:=aqv;simp only [ByteArray.size_append] at aip)
   try have awt:(9223372036854775807 < (bS.size + 2 + dZ.size) + 1)=False:=aip
   obtain rfl:=Option.some.inj H
   go_enter Tryz.func88,Tryz.ntmps88
   go_wp2_with (first|((with_reducible refine cB (N:=1) rfl ?_);refine cj ?hg (N:=1) ?hd (cs:=#[.string bS,.string dZ,.bool true]) (t:=30) ?hr ?_;(case hd=>rfl);(case hg=>rfl);(case hr=>first|(go_simp;done)|(go_simp;rfl));intro kZ hg w8 cE hb;have iD:=aa.mk (cE);have acH:=aa.mk ((dI:w.heap.size≤kZ));have UY:=aa.mk ((dI:w.heap.size≤kZ));replace HB:=aa.mk (aA bG hb);clear hb cE hg;have rG:w8.cell? ⟨kZ,0,none⟩=some (.string bS):=(ah iD.out 0).trans rfl;have rH:w8.cell? ⟨kZ,1,none⟩=some (.string dZ):=(ah iD.out 1).trans rfl;have zD:w8.cell? ⟨kZ,2,none⟩=some (.bool true):=(ah iD.out 2).trans rfl;have rI:=af iD.out 0;have rJ:=af iD.out 1;have zE:=af iD.out 2)|((with_reducible refine aK (f:=134) rfl ?_);refine bU (some 8) rfl rfl Tryz.func134 aq rfl #[.string bS] rfl cz ?_;(with_reducible refine (bz.calls k bS true _ A2.out).mono ?_);rintro e w' ⟨rfl,⟨nd,rfl⟩⟩;refine ⟨_,rfl,?_⟩))
   go_ret
   exact ⟨cH,wz⟩
  ·replace c4:=Bool.eq_false_iff.mpr c4
   subst c4
   rw [if_neg (show ¬ (false=true) by decide)] at H
   obtain ⟨c10,H⟩:=iA H
   have pR:=eq_true c10
   have AK:=decide_eq_true c10
   try have atw:(9223372036854775807 < bS.size + 1)=False:=eq_false (Nat.not_lt.2 c10)
   obtain ⟨c11,H⟩:=iA H
   have oC:=eq_true c11
   have wM:=decide_eq_true c11
   try have aiq:(9223372036854775807 < (bS ++ (⟨#[64]⟩:ByteArray)).size + dZ.size)=False:=eq_false (Nat.not_lt.2 c11)
   try (have acI:=aiq;simp only [ByteArray.size_append] at acI)
   try have atx:(9223372036854775807 < (bS.size + 1) + dZ.size)=False:=acI
   obtain rfl:=Option.some.inj H
   go_enter Tryz.func88,Tryz.ntmps88
   go_wp2_with (first|((with_reducible refine cB (N:=1) rfl ?_);refine cj ?hg (N:=1) ?hd (cs:=#[.string bS,.string dZ,.bool false]) (t:=30) ?hr ?_;(case hd=>rfl);(case hg=>rfl);(case hr=>first|(go_simp;done)|(go_simp;rfl));intro kZ hg Ld cE hb;have iD:=aa.mk (cE);have acH:=aa.mk ((dI:w.heap.size≤kZ));have UY:=aa.mk ((dI:w.heap.size≤kZ));replace HB:=aa.mk (aA bG hb);clear hb cE hg;have qD:Ld.cell? ⟨kZ,0,none⟩=some (.string bS):=(ah iD.out 0).trans rfl;have qE:Ld.cell? ⟨kZ,1,none⟩=some (.string dZ):=(ah iD.out 1).trans rfl;have vo:Ld.cell? ⟨kZ,2,none⟩=some (.bool false):=(ah iD.out 2).trans rfl;have qF:=af iD.out 0;have qG:=af iD.out 1;have vp:=af iD.out 2)|((with_reducible refine aK (f:=134) rfl ?_);refine bU (some 8) rfl rfl Tryz.func134 aq rfl #[.string bS] rfl cz ?_;(with_reducible refine (bz.calls k bS true _ A2.out).mono ?_);rintro e w' ⟨rfl,⟨nd,rfl⟩⟩;refine ⟨_,rfl,?_⟩))
   go_ret
   exact ⟨cH,wz⟩
 ·replace c3:=Bool.eq_false_iff.mpr c3
  subst c3
  rw [if_neg (show ¬ (false=true) by decide)] at H
  have H':=aa.mk H
  clear H
  go_enter Tryz.func88,Tryz.ntmps88
  go_wp2_with (first|((with_reducible refine cB (N:=1) rfl ?_);refine cj ?hg (N:=1) ?hd (cs:=#[.string bS,.string dZ,.bool cg]) (t:=30) ?hr ?_;(case hd=>rfl);(case hg=>rfl);(case hr=>first|(go_simp;done)|(go_simp;rfl));intro kZ hg w14 cE hb;have iD:=aa.mk (cE);have acH:=aa.mk ((dI:w.heap.size≤kZ));have UY:=aa.mk ((dI:w.heap.size≤kZ));replace HB:=aa.mk (aA bG hb);clear hb cE hg;have J7:w14.cell? ⟨kZ,0,none⟩=some (.string bS):=(ah iD.out 0).trans rfl;have J8:w14.cell? ⟨kZ,1,none⟩=some (.string dZ):=(ah iD.out 1).trans rfl;have J9:w14.cell? ⟨kZ,2,none⟩=some (.bool cg):=(ah iD.out 2).trans rfl;have Ka:=af iD.out 0;have Kb:=af iD.out 1;have Ke:=af iD.out 2)|((with_reducible refine aK (f:=134) rfl ?_);refine bU (some 8) rfl rfl Tryz.func134 aq rfl #[.string bS] rfl cz ?_;(with_reducible refine (bz.calls k bS false _ A2.out).mono ?_);rintro e w' ⟨rfl,⟨nd,rfl⟩⟩;refine ⟨_,rfl,?_⟩))
  go_loopg [3,4] k (fun kq v3 v4 w'=>∃ (kE:ByteArray) (cJ:Int),v3= .string kE∧v4= .int .i64 cJ∧aa (bH.l0 kq kE cJ bS dZ cg=some r)∧aa (kq≤k)∧aa (w'.heap[kZ]? =some (.cells #[.string bS,.string dZ,.bool cg] 30 (0,0)))∧aa (Below w.heap.size w w'))
  case atStart=>exact ⟨((⟨#[34]⟩:ByteArray)),(0),b9,b9,H',⟨Nat.le_refl _⟩,⟨DV⟩,⟨wz⟩⟩
  case round=>
   clear H'
   obtain ⟨kE,cJ,rfl,rfl,HA,p9,iD,HB⟩:=hrel
   cases gk with
   |zero=>exact absurd HA.out (by simp [bH.l0])
   |succ k1=>
    have H:=HA.out
    clear HA
    simp only [bH.l0] at H
    by_cases c16:cJ < (bS.size:Int)
    ·rw [if_pos c16] at H
     have qT:=decide_eq_true c16
     clear c16
     obtain ⟨c17,H⟩:=iA H
     have wO:=decide_eq_true c17
     clear c17
     by_cases c19:(bt bS cJ)=34
     ·rw [if_pos c19] at H
      have zj:=beq_iff_eq.mpr c19
      have Sc:=bne_eq_false_iff_eq.mpr c19
      clear c19
      obtain ⟨c20,H⟩:=iA H
      have Fz:=eq_true c20
      have ab8:=decide_eq_true c20
      try have Sd:(9223372036854775807 < kE.size + 1)=False:=eq_false (Nat.not_lt.2 c20)
      have wW:=eq_true (of_decide_eq_true bp: 0≤cJ)
      obtain ⟨GU,H⟩:=iA H
      have V7:=eq_true GU
      have air:=decide_eq_true GU
      obtain ⟨BO,H⟩:=iA H
      have wX:=eq_true BO
      have SB:=decide_eq_true BO
      obtain ⟨c24,H⟩:=iA H
      have RJ:=eq_true c24
      have abX:=decide_eq_true c24
      try have ais:(9223372036854775807 < (kE ++ (⟨#[92]⟩:ByteArray)).size + (bS.extract (cJ:Int).toNat ((wrap64 (cJ + 1)):Int).toNat).size)=False:=eq_false (Nat.not_lt.2 c24)
      try (have acJ:=ais;simp only [ByteArray.size_append] at acJ)
      try have aty:(9223372036854775807 < (kE.size + 1) + ((bS.extract (cJ:Int).toNat ((wrap64 (cJ + 1)):Int).toNat).size))=False:=acJ
      have H':=aa.mk H
      clear H
      have yc:wr.cell? ⟨kZ,0,none⟩=some (.string bS):=(ah iD.out 0).trans rfl
      have yf:wr.cell? ⟨kZ,1,none⟩=some (.string dZ):=(ah iD.out 1).trans rfl
      have yg:wr.cell? ⟨kZ,2,none⟩=some (.bool cg):=(ah iD.out 2).trans rfl
      have yh:=af iD.out 0
      have yj:=af iD.out 1
      have yl:=af iD.out 2
      have UM: 0≤(cJ:Int):=of_decide_eq_true bp
      have SE:cJ < (bS.size:Int):=of_decide_eq_true bp
      have aat:=dA bS cJ
      replace UM:=eq_true UM
      replace SE:=eq_true SE
      go_wp2
      go_roundg k1
      case measure=>have:=p9.out;omega
      case rel=>exact ⟨((kE ++ (⟨#[92]⟩:ByteArray)) ++ (bS.extract (cJ:Int).toNat ((wrap64 (cJ + 1)):Int).toNat)),(wrap64 (cJ + 1)),b9,b9,H',⟨je⟩,⟨DV⟩,⟨wz⟩⟩
     ·rw [if_neg c19] at H
      have zj:=beq_eq_false_iff_ne.mpr c19
      have Sc:=bne_iff_ne.mpr c19
      by_cases JU:(bt bS cJ)=92
      ·rw [if_pos JU] at H
       have WH:=beq_iff_eq.mpr JU
       have ait:=bne_eq_false_iff_eq.mpr JU
       clear JU
       obtain ⟨c28,H⟩:=iA H
       have CW:=eq_true c28
       have V4:=decide_eq_true c28
       try have atz:(9223372036854775807 < kE.size + 1)=False:=eq_false (Nat.not_lt.2 c28)
       have acd:=eq_true (of_decide_eq_true bp: 0≤cJ)
       obtain ⟨Fh,H⟩:=iA H
       have Mu:=eq_true Fh
       have agy:=decide_eq_true Fh
       obtain ⟨c31,H⟩:=iA H
       have atA:=eq_true c31
       have atB:=decide_eq_true c31
       obtain ⟨Hy,H⟩:=iA H
       have Sv:=eq_true Hy
       have atC:=decide_eq_true Hy
       try have aiu:(9223372036854775807 < (kE ++ (⟨#[92]⟩:ByteArray)).size + (bS.extract (cJ:Int).toNat ((wrap64 (cJ + 1)):Int).toNat).size)=False:=eq_false (Nat.not_lt.2 Hy)
       try (have acK:=aiu;simp only [ByteArray.size_append] at acK)
       try have atD:(9223372036854775807 < (kE.size + 1) + ((bS.extract (cJ:Int).toNat ((wrap64 (cJ + 1)):Int).toNat).size))=False:=acK
       have H':=aa.mk H
       clear H
       have JI:wr.cell? ⟨kZ,0,none⟩=some (.string bS):=(ah iD.out 0).trans rfl
       have JJ:wr.cell? ⟨kZ,1,none⟩=some (.string dZ):=(ah iD.out 1).trans rfl
       have Rv:wr.cell? ⟨kZ,2,none⟩=some (.bool cg):=(ah iD.out 2).trans rfl
       have JK:=af iD.out 0
       have JL:=af iD.out 1
       have Rw:=af iD.out 2
       have UM: 0≤(cJ:Int):=of_decide_eq_true bp
       have SE:cJ < (bS.size:Int):=of_decide_eq_true bp
       have aat:=dA bS cJ
       replace UM:=eq_true UM
       replace SE:=eq_true SE
       have p26: 0≤(cJ:Int):=of_decide_eq_true bp
       have q26:cJ < (bS.size:Int):=of_decide_eq_true bp
       have aqw:=dA bS cJ
       replace p26:=eq_true p26
       replace q26:=eq_true q26
       go_wp2
       go_roundg k1
       case measure=>have:=p9.out;omega
       case rel=>exact ⟨((kE ++ (⟨#[92]⟩:ByteArray)) ++ (bS.extract (cJ:Int).toNat ((wrap64 (cJ + 1)):Int).toNat)),(wrap64 (cJ + 1)),b9,b9,H',⟨je⟩,⟨DV⟩,⟨wz⟩⟩
      ·rw [if_neg JU] at H
       have WH:=beq_eq_false_iff_ne.mpr JU
       have ait:=bne_iff_ne.mpr JU
       have ag0:=eq_true (of_decide_eq_true bp: 0≤cJ)
       obtain ⟨Hr,H⟩:=iA H
       have Fi:=eq_true Hr
       have VB:=decide_eq_true Hr
       obtain ⟨zC,H⟩:=iA H
       have L8:=eq_true zC
       have VC:=decide_eq_true zC
       obtain ⟨c37,H⟩:=iA H
       have CX:=eq_true c37
       have Ra:=decide_eq_true c37
       try have atE:(9223372036854775807 < kE.size + (bS.extract (cJ:Int).toNat ((wrap64 (cJ + 1)):Int).toNat).size)=False:=eq_false (Nat.not_lt.2 c37)
       have H':=aa.mk H
       clear H
       have aah:wr.cell? ⟨kZ,0,none⟩=some (.string bS):=(ah iD.out 0).trans rfl
       have aai:wr.cell? ⟨kZ,1,none⟩=some (.string dZ):=(ah iD.out 1).trans rfl
       have aaj:wr.cell? ⟨kZ,2,none⟩=some (.bool cg):=(ah iD.out 2).trans rfl
       have aak:=af iD.out 0
       have aal:=af iD.out 1
       have aam:=af iD.out 2
       have UM: 0≤(cJ:Int):=of_decide_eq_true bp
       have SE:cJ < (bS.size:Int):=of_decide_eq_true bp
       have aat:=dA bS cJ
       replace UM:=eq_true UM
       replace SE:=eq_true SE
       have p26: 0≤(cJ:Int):=of_decide_eq_true bp
       have q26:cJ < (bS.size:Int):=of_decide_eq_true bp
       have aqw:=dA bS cJ
       replace p26:=eq_true p26
       replace q26:=eq_true q26
       go_wp2
       go_roundg k1
       case measure=>have:=p9.out;omega
       case rel=>exact ⟨(kE ++ (bS.extract (cJ:Int).toNat ((wrap64 (cJ + 1)):Int).toNat)),(wrap64 (cJ + 1)),b9,b9,H',⟨je⟩,⟨DV⟩,⟨wz⟩⟩
    ·rw [if_neg c16] at H
     have qT:=decide_eq_false c16
     clear c16
     obtain ⟨W6,H⟩:=iA H
     have acz:=eq_true W6
     have acA:=decide_eq_true W6
     try have atF:(9223372036854775807 < kE.size + 1)=False:=eq_false (Nat.not_lt.2 W6)
     by_cases c40:cg=true
     ·subst c40
      rw [if_pos rfl] at H
      obtain ⟨OY,H⟩:=iA H
      have acL:=eq_true OY
      have acM:=decide_eq_true OY
      try have Xv:(9223372036854775807 < (kE ++ (⟨#[34]⟩:ByteArray)).size + 2)=False:=eq_false (Nat.not_lt.2 OY)
      try (have Xw:=Xv;simp only [ByteArray.size_append] at Xw)
      try have atG:(9223372036854775807 < (kE.size + 1) + 2)=False:=Xw
      obtain ⟨c42,H⟩:=iA H
      have atH:=eq_true c42
      have atI:=decide_eq_true c42
      try have aix:(9223372036854775807 < ((kE ++ (⟨#[34]⟩:ByteArray)) ++ (⟨#[64,91]⟩:ByteArray)).size + dZ.size)=False:=eq_false (Nat.not_lt.2 c42)
      try (have acN:=aix;simp only [ByteArray.size_append] at acN)
      try have atJ:(9223372036854775807 < (kE.size + 1 + 2) + dZ.size)=False:=acN
      obtain ⟨c43,H⟩:=iA H
      have atK:=eq_true c43
      have atL:=decide_eq_true c43
      try have aiy:(9223372036854775807 < (((kE ++ (⟨#[34]⟩:ByteArray)) ++ (⟨#[64,91]⟩:ByteArray)) ++ dZ).size + 1)=False:=eq_false (Nat.not_lt.2 c43)
      try (have acO:=aiy;simp only [ByteArray.size_append] at acO)
      try have atM:(9223372036854775807 < (kE.size + 1 + 2 + dZ.size) + 1)=False:=acO
      obtain rfl:=Option.some.inj H
      have aaO:wr.cell? ⟨kZ,0,none⟩=some (.string bS):=(ah iD.out 0).trans rfl
      have aaP:wr.cell? ⟨kZ,1,none⟩=some (.string dZ):=(ah iD.out 1).trans rfl
      have aaQ:wr.cell? ⟨kZ,2,none⟩=some (.bool true):=(ah iD.out 2).trans rfl
      have aaR:=af iD.out 0
      have aaS:=af iD.out 1
      have aaT:=af iD.out 2
      go_wp2
      go_ret
      exact ⟨cH,wz⟩
     ·replace c40:=Bool.eq_false_iff.mpr c40
      subst c40
      rw [if_neg (show ¬ (false=true) by decide)] at H
      obtain ⟨c45,H⟩:=iA H
      have atN:=eq_true c45
      have atO:=decide_eq_true c45
      try have aiz:(9223372036854775807 < (kE ++ (⟨#[34]⟩:ByteArray)).size + 1)=False:=eq_false (Nat.not_lt.2 c45)
      try (have acP:=aiz;simp only [ByteArray.size_append] at acP)
      try have atP:(9223372036854775807 < (kE.size + 1) + 1)=False:=acP
      obtain ⟨c46,H⟩:=iA H
      have ag8:=eq_true c46
      have atQ:=decide_eq_true c46
      try have aiA:(9223372036854775807 < ((kE ++ (⟨#[34]⟩:ByteArray)) ++ (⟨#[64]⟩:ByteArray)).size + dZ.size)=False:=eq_false (Nat.not_lt.2 c46)
      try (have acQ:=aiA;simp only [ByteArray.size_append] at acQ)
      try have atS:(9223372036854775807 < (kE.size + 1 + 1) + dZ.size)=False:=acQ
      obtain rfl:=Option.some.inj H
      have am4:wr.cell? ⟨kZ,0,none⟩=some (.string bS):=(ah iD.out 0).trans rfl
      have am5:wr.cell? ⟨kZ,1,none⟩=some (.string dZ):=(ah iD.out 1).trans rfl
      have am6:wr.cell? ⟨kZ,2,none⟩=some (.bool false):=(ah iD.out 2).trans rfl
      have am7:=af iD.out 0
      have am8:=af iD.out 1
      have am9:=af iD.out 2
      go_wp2
      go_ret
      exact ⟨cH,wz⟩
end Go.Proofs.YtokpnfljjjjikaaGreatDoor.mY
namespace Go.Proofs.YtokpnfljjjjikaaGreatDoor.mY
open Go.RowKit Go.Proofs.YtokpnfljjjjikaaGreatDoor.qP Go.Proofs.aj.bO Go.Proofs.aj.fA Go.Proofs.aj.cK
attribute [local go_sem] ia ig iU iV gf gh ij iq
set_option linter.unusedVariables false
set_option linter.unusedSimpArgs false
mutual
def bq.j0:Nat→Bool→Bool→List ByteArray→ByteArray→ByteArray→Bool→Option (ByteArray)
 | 0,_,_,_,_,_,_ =>none
 |k + 1,x16,EC,pW,tS,Bn,Bo=>if x16=true then (if 1 + tS.size≤9223372036854775807 then (if ((⟨#[60]⟩:ByteArray) ++ tS).size + 1≤9223372036854775807 then (some (((⟨#[60]⟩:ByteArray) ++ tS) ++ (⟨#[62]⟩:ByteArray))) else (none)) else (none)) else (bq.l0 k (⟨#[60]⟩:ByteArray) 0 EC pW tS Bn Bo)
def bq.l0:Nat→ByteArray→Int→Bool→List ByteArray→ByteArray→ByteArray→Bool→Option (ByteArray)
 | 0,_,_,_,_,_,_,_ =>none
 |k + 1,x3,x4,EC,pW,tS,Bn,Bo=>if x4 < (pW.length:Int) then (if x3.size + 1≤9223372036854775807 then (if 0≤x4 then (if (x3 ++ (⟨#[64]⟩:ByteArray)).size + (cV ByteArray.empty pW x4).size≤9223372036854775807 then (if x4 < (wrap64 ((pW.length:Int) - 1)) then (if ((x3 ++ (⟨#[64]⟩:ByteArray)) ++ (cV ByteArray.empty pW x4)).size + 1≤9223372036854775807 then (bq.l0 k (((x3 ++ (⟨#[64]⟩:ByteArray)) ++ (cV ByteArray.empty pW x4)) ++ (⟨#[44]⟩:ByteArray)) (wrap64 (x4 + 1)) EC pW tS Bn Bo) else (none)) else (if ((x3 ++ (⟨#[64]⟩:ByteArray)) ++ (cV ByteArray.empty pW x4)).size + 1≤9223372036854775807 then (bq.l0 k (((x3 ++ (⟨#[64]⟩:ByteArray)) ++ (cV ByteArray.empty pW x4)) ++ (⟨#[58]⟩:ByteArray)) (wrap64 (x4 + 1)) EC pW tS Bn Bo) else (none))) else (none)) else (none)) else (none)) else ((bH.f k tS Bn Bo).bind fun MI=>(if x3.size + MI.size≤9223372036854775807 then (if (x3 ++ MI).size + 1≤9223372036854775807 then (some ((x3 ++ MI) ++ (⟨#[62]⟩:ByteArray))) else (none)) else (none)))
end
def bq.f (k:Nat) (bS:Bool) (cC:List ByteArray) (cg:ByteArray) (cN:ByteArray) (cR:Bool):Option (ByteArray):=if bS=true then (some (⟨#[60,62]⟩:ByteArray)) else (if cN.toList=([]:List UInt8) then (bq.j0 k (!cR) bS cC cg cN cR) else (bq.j0 k false bS cC cg cN cR))
theorem bq.dF:∀ k,(∀ y0 y1 y2 y3 y4 y5,bL (bq.j0 k y0 y1 y2 y3 y4 y5) (bq.j0 (k + 1) y0 y1 y2 y3 y4 y5))∧(∀ y0 y1 y2 y3 y4 y5 y6,bL (bq.l0 k y0 y1 y2 y3 y4 y5 y6) (bq.l0 (k + 1) y0 y1 y2 y3 y4 y5 y6))
 | 0=>⟨fun _ _ _ _ _ _ r h=>by simp [bq.j0] at h,fun _ _ _ _ _ _ _ r h=>by simp [bq.l0] at h⟩
 |k + 1=>by
  obtain ⟨fV,ih1⟩:=bq.dF k
  refine ⟨?_,?_⟩
  ·intro y0 y1 y2 y3 y4 y5
   unfold bq.j0
   repeat' first
   |(with_reducible first|exact fV _ _ _ _ _ _|exact ih1 _ _ _ _ _ _ _|exact bH.mono _ _ _ _|exact bL.refl _|exact bL.none _|refine bL.ite ?_ ?_|refine bL.bind ?_ (fun _ =>?_))
   |exact fV _ _ _ _ _ _
   |exact ih1 _ _ _ _ _ _ _
   |exact bH.mono _ _ _ _
   |exact bL.none _
   |refine bL.ite ?_ ?_
   |refine bL.bind ?_ (fun _ =>?_)
  ·intro y0 y1 y2 y3 y4 y5 y6
   unfold bq.l0
   repeat' first
   |(with_reducible first|exact fV _ _ _ _ _ _|exact ih1 _ _ _ _ _ _ _|exact bH.mono _ _ _ _|exact bL.refl _|exact bL.none _|refine bL.ite ?_ ?_|refine bL.bind ?_ (fun _ =>?_))
   |exact fV _ _ _ _ _ _
   |exact ih1 _ _ _ _ _ _ _
   |exact bH.mono _ _ _ _
   |exact bL.none _
   |refine bL.ite ?_ ?_
   |refine bL.bind ?_ (fun _ =>?_)
theorem bq.mono:∀ a0 a1 a2 a3 a4 k,bL (bq.f k a0 a1 a2 a3 a4) (bq.f (k + 1) a0 a1 a2 a3 a4):=by
 intro a0 a1 a2 a3 a4 k
 obtain ⟨fV,ih1⟩:=bq.dF k
 unfold bq.f
 repeat' first
  |(with_reducible first|exact fV _ _ _ _ _ _|exact ih1 _ _ _ _ _ _ _|exact bH.mono _ _ _ _|exact bL.refl _|exact bL.none _|refine bL.ite ?_ ?_|refine bL.bind ?_ (fun _ =>?_))
  |exact fV _ _ _ _ _ _
  |exact ih1 _ _ _ _ _ _ _
  |exact bH.mono _ _ _ _
  |exact bL.none _
  |refine bL.ite ?_ ?_
  |refine bL.bind ?_ (fun _ =>?_)
theorem bq.calls (k:Nat) (bS:Bool) (fC:Option Addr) (fD:Nat) (cC:List ByteArray) (cg:ByteArray) (cN:ByteArray) (cR:Bool) (r:ByteArray) (w:World) (oX:Kd.C Kd.string w fC cC.length cC) (oY:cC.length≤fD) (h:bq.f k bS cC cg cN cR=some r):
 Calls Tryz.prog 86 #[.agg #[.bool bS,.slice fC cC.length fD,.string cg,.string cN,.bool cR]] w fun e w'=>e= .returned (.string r)∧Below w.heap.size w w':=by
 have DA:=Tryz.underlying32
 have wT:=Tryz.underlying30
 have mI:=aa.mk oX
 have oZ:=aa.mk oY
 clear oX oY
 have HB:=aa.mk (Below.refl w.heap.size w)
 have H:(if bS=true then (some (⟨#[60,62]⟩:ByteArray)) else (if cN.toList=([]:List UInt8) then (bq.j0 k (!cR) bS cC cg cN cR) else (bq.j0 k false bS cC cg cN cR)))=some r:=h
 clear h
 by_cases c2:bS=true
 ·subst c2
  rw [if_pos rfl] at H
  obtain rfl:=Option.some.inj H
  go_enter Tryz.func86,Tryz.ntmps86
  go_wp2_with (first|((with_reducible refine cB (N:=1) rfl ?_);refine cj ?hg (N:=1) ?hd (cs:=#[.bool true,.slice fC cC.length fD,.string cg,.string cN,.bool cR]) (t:=32) ?hr ?_;(case hd=>rfl);(case hg=>rfl);(case hr=>first|(go_simp;done)|(go_simp;rfl));intro iP hg w3 cE hb;have eT:=aa.mk (cE);have aiB:=aa.mk ((dI:w.heap.size≤iP));have abw:=aa.mk ((dI:w.heap.size≤iP));replace HB:=aa.mk (aA bG hb);clear hb cE hg;have aep:w3.cell? ⟨iP,0,none⟩=some (.bool true):=(ah eT.out 0).trans rfl;have aer:w3.cell? ⟨iP,1,none⟩=some (.slice fC cC.length fD):=(ah eT.out 1).trans rfl;have aes:w3.cell? ⟨iP,2,none⟩=some (.string cg):=(ah eT.out 2).trans rfl;have aqz:w3.cell? ⟨iP,3,none⟩=some (.string cN):=(ah eT.out 3).trans rfl;have aqA:w3.cell? ⟨iP,4,none⟩=some (.bool cR):=(ah eT.out 4).trans rfl;have aet:=af eT.out 0;have aeu:=af eT.out 1;have aev:=af eT.out 2;have aqB:=af eT.out 3;have aqC:=af eT.out 4))
  go_ret
  exact ⟨cH,uN⟩
 ·replace c2:=Bool.eq_false_iff.mpr c2
  subst c2
  rw [if_neg (show ¬ (false=true) by decide)] at H
  have HC5:=aa.mk H
  clear H
  go_enter Tryz.func86,Tryz.ntmps86
  go_upto_region 3 with (first|((with_reducible refine cB (N:=1) rfl ?_);refine cj ?hg (N:=1) ?hd (cs:=#[.bool false,.slice fC cC.length fD,.string cg,.string cN,.bool cR]) (t:=32) ?hr ?_;(case hd=>rfl);(case hg=>rfl);(case hr=>first|(go_simp;done)|(go_simp;rfl));intro iP hg w6 cE hb;have eT:=aa.mk (cE);have aiB:=aa.mk ((dI:w.heap.size≤iP));have abw:=aa.mk ((dI:w.heap.size≤iP));replace HB:=aa.mk (aA bG hb);clear hb cE hg;have Jq:w6.cell? ⟨iP,0,none⟩=some (.bool false):=(ah eT.out 0).trans rfl;have Jr:w6.cell? ⟨iP,1,none⟩=some (.slice fC cC.length fD):=(ah eT.out 1).trans rfl;have Wh:w6.cell? ⟨iP,2,none⟩=some (.string cg):=(ah eT.out 2).trans rfl;have Wi:w6.cell? ⟨iP,3,none⟩=some (.string cN):=(ah eT.out 3).trans rfl;have Wj:w6.cell? ⟨iP,4,none⟩=some (.bool cR):=(ah eT.out 4).trans rfl;have Js:=af eT.out 0;have Jt:=af eT.out 1;have Wk:=af eT.out 2;have Wl:=af eT.out 3;have Wm:=af eT.out 4))
  (try simp only [Act.put,List.setIfInBounds_toArray,List.set_cons_zero,List.set_cons_succ])
  go_cut [16] (fun v16 wc=>∃ (kq:Nat) (SM:Bool),v16= .bool SM∧aa (bq.j0 kq SM false cC cg cN cR=some r)∧aa (kq≤k)∧aa (wc.heap[iP]? =some (.cells #[.bool false,(.slice fC cC.length fD),.string cg,.string cN,.bool cR] 32 (0,0)))∧aa (Below w.heap.size w wc))
  case first=>
   have H:=HC5.out
   clear HC5
   by_cases c8:cN.toList=([]:List UInt8)
   ·rw [if_pos c8] at H
    have rK:=beq_iff_eq.mpr c8
    have Fg:=bne_eq_false_iff_eq.mpr c8
    clear c8
    (first|rw [rK]|(simp only [cU,dh];rw [rK])|skip)
    have H':=aa.mk H
    clear H
    have rG:w6.cell? ⟨iP,0,none⟩=some (.bool false):=(ah eT.out 0).trans rfl
    have rH:w6.cell? ⟨iP,1,none⟩=some (.slice fC cC.length fD):=(ah eT.out 1).trans rfl
    have zD:w6.cell? ⟨iP,2,none⟩=some (.string cg):=(ah eT.out 2).trans rfl
    have J3:w6.cell? ⟨iP,3,none⟩=some (.string cN):=(ah eT.out 3).trans rfl
    have J4:w6.cell? ⟨iP,4,none⟩=some (.bool cR):=(ah eT.out 4).trans rfl
    have rI:=af eT.out 0
    have rJ:=af eT.out 1
    have zE:=af eT.out 2
    have J5:=af eT.out 3
    have J6:=af eT.out 4
    go_wp2
    go_meet
    case rel=>exact ⟨_,(!cR),b9,H',⟨iT⟩,⟨xQ⟩,⟨uN⟩⟩
   ·rw [if_neg c8] at H
    have rK:=beq_eq_false_iff_ne.mpr c8
    have Fg:=bne_iff_ne.mpr c8
    (first|rw [rK]|(simp only [cU,dh];rw [rK])|skip)
    have H':=aa.mk H
    clear H
    have Es:w6.cell? ⟨iP,0,none⟩=some (.bool false):=(ah eT.out 0).trans rfl
    have Et:w6.cell? ⟨iP,1,none⟩=some (.slice fC cC.length fD):=(ah eT.out 1).trans rfl
    have Eu:w6.cell? ⟨iP,2,none⟩=some (.string cg):=(ah eT.out 2).trans rfl
    have RS:w6.cell? ⟨iP,3,none⟩=some (.string cN):=(ah eT.out 3).trans rfl
    have RT:w6.cell? ⟨iP,4,none⟩=some (.bool cR):=(ah eT.out 4).trans rfl
    have Ew:=af eT.out 0
    have Ex:=af eT.out 1
    have Ey:=af eT.out 2
    have RU:=af eT.out 3
    have RV:=af eT.out 4
    go_wp2
    go_meet
    case rel=>exact ⟨_,(false),b9,H',⟨iT⟩,⟨xQ⟩,⟨uN⟩⟩
  case rest=>
   clear HC5
   obtain ⟨kq,SM,rfl,HA,HJ4,eT,HB⟩:=hcut
   cases kq with
   |zero=>exact absurd HA.out (by simp [bq.j0])
   |succ kj4=>
    have H:=HA.out
    clear HA
    simp only [bq.j0] at H
    by_cases c11:SM=true
    ·subst c11
     rw [if_pos rfl] at H
     obtain ⟨c12,H⟩:=iA H
     have zg:=eq_true c12
     have LK:=decide_eq_true c12
     try have atU:(9223372036854775807 < 1 + cg.size)=False:=eq_false (Nat.not_lt.2 c12)
     obtain ⟨c13,H⟩:=iA H
     have vW:=eq_true c13
     have Fb:=decide_eq_true c13
     try have aiC:(9223372036854775807 < ((⟨#[60]⟩:ByteArray) ++ cg).size + 1)=False:=eq_false (Nat.not_lt.2 c13)
     try (have acR:=aiC;simp only [ByteArray.size_append] at acR)
     try have atV:(9223372036854775807 < (1 + cg.size) + 1)=False:=acR
     obtain rfl:=Option.some.inj H
     have AP:wc.cell? ⟨iP,0,none⟩=some (.bool false):=(ah eT.out 0).trans rfl
     have AQ:wc.cell? ⟨iP,1,none⟩=some (.slice fC cC.length fD):=(ah eT.out 1).trans rfl
     have Eo:wc.cell? ⟨iP,2,none⟩=some (.string cg):=(ah eT.out 2).trans rfl
     have Kn:wc.cell? ⟨iP,3,none⟩=some (.string cN):=(ah eT.out 3).trans rfl
     have Ko:wc.cell? ⟨iP,4,none⟩=some (.bool cR):=(ah eT.out 4).trans rfl
     have AR:=af eT.out 0
     have AU:=af eT.out 1
     have Ep:=af eT.out 2
     have Kp:=af eT.out 3
     have Kq:=af eT.out 4
     go_wp2
     go_ret
     exact ⟨cH,uN⟩
    ·replace c11:=Bool.eq_false_iff.mpr c11
     subst c11
     rw [if_neg (show ¬ (false=true) by decide)] at H
     have H':=aa.mk H
     clear H
     go_wp2
     go_loopg [3,4] kj4 (fun kq v3 v4 w'=>∃ (fG:ByteArray) (oF:Int),v3= .string fG∧v4= .int .i64 oF∧aa (bq.l0 kq fG oF false cC cg cN cR=some r)∧aa (kq≤kj4)∧aa (w'.heap[iP]? =some (.cells #[.bool false,(.slice fC cC.length fD),.string cg,.string cN,.bool cR] 32 (0,0)))∧aa (Below w.heap.size w w'))
     case atStart=>exact ⟨((⟨#[60]⟩:ByteArray)),(0),b9,b9,H',⟨Nat.le_refl _⟩,⟨xQ⟩,⟨uN⟩⟩
     case round=>
      clear H'
      obtain ⟨fG,oF,rfl,rfl,HA,uI,eT,HB⟩:=hrel
      cases gk with
      |zero=>exact absurd HA.out (by simp [bq.l0])
      |succ k2=>
       have H:=HA.out
       clear HA
       simp only [bq.l0] at H
       by_cases c15:oF < (cC.length:Int)
       ·rw [if_pos c15] at H
        have tL:=decide_eq_true c15
        clear c15
        obtain ⟨c16,H⟩:=iA H
        have qT:=eq_true c16
        have CV:=decide_eq_true c16
        try have atW:(9223372036854775807 < fG.size + 1)=False:=eq_false (Nat.not_lt.2 c16)
        obtain ⟨c17,H⟩:=iA H
        have wO:=decide_eq_true c17
        clear c17
        obtain ⟨c18,H⟩:=iA H
        have xd:=eq_true c18
        have Mr:=decide_eq_true c18
        try have WE:(9223372036854775807 < (fG ++ (⟨#[64]⟩:ByteArray)).size + (cV ByteArray.empty cC oF).size)=False:=eq_false (Nat.not_lt.2 c18)
        try (have Ms:=WE;simp only [ByteArray.size_append] at Ms)
        try have agt:(9223372036854775807 < (fG.size + 1) + ((cV ByteArray.empty cC oF).size))=False:=Ms
        by_cases c19:oF < (wrap64 ((cC.length:Int) - 1))
        ·rw [if_pos c19] at H
         have zj:=decide_eq_true c19
         clear c19
         obtain ⟨c20,H⟩:=iA H
         have Fz:=eq_true c20
         have ab8:=decide_eq_true c20
         try have Sd:(9223372036854775807 < ((fG ++ (⟨#[64]⟩:ByteArray)) ++ (cV ByteArray.empty cC oF)).size + 1)=False:=eq_false (Nat.not_lt.2 c20)
         try (have Mt:=Sd;simp only [ByteArray.size_append] at Mt)
         try have agv:(9223372036854775807 < (fG.size + 1 + (cV ByteArray.empty cC oF).size) + 1)=False:=Mt
         have H':=aa.mk H
         clear H
         have RZ:wr.cell? ⟨iP,0,none⟩=some (.bool false):=(ah eT.out 0).trans rfl
         have R3:wr.cell? ⟨iP,1,none⟩=some (.slice fC cC.length fD):=(ah eT.out 1).trans rfl
         have R4:wr.cell? ⟨iP,2,none⟩=some (.string cg):=(ah eT.out 2).trans rfl
         have ZW:wr.cell? ⟨iP,3,none⟩=some (.string cN):=(ah eT.out 3).trans rfl
         have ZX:wr.cell? ⟨iP,4,none⟩=some (.bool cR):=(ah eT.out 4).trans rfl
         have R5:=af eT.out 0
         have R6:=af eT.out 1
         have R7:=af eT.out 2
         have ZY:=af eT.out 3
         have ZZ:=af eT.out 4
         have OZ: 0≤(oF:Int):=of_decide_eq_true bp
         have O0:oF < (cC.length:Int):=of_decide_eq_true bp
         obtain ⟨aiD,aew,vB⟩:=Kd.cY mI.out oF OZ O0
         cases aew
         replace vB:=(HB.out.cell (World.block_lt_of_cell? w _ vB)).trans vB
         replace OZ:=eq_true OZ
         replace O0:=eq_true O0
         go_wp2
         go_roundg k2
         case measure=>have:=HJ4.out;have:=uI.out;omega
         case rel=>exact ⟨(((fG ++ (⟨#[64]⟩:ByteArray)) ++ (cV ByteArray.empty cC oF)) ++ (⟨#[44]⟩:ByteArray)),(wrap64 (oF + 1)),b9,b9,H',⟨by have:=HJ4.out;have:=uI.out;omega⟩,⟨xQ⟩,⟨uN⟩⟩
        ·rw [if_neg c19] at H
         have zj:=decide_eq_false c19
         clear c19
         obtain ⟨GU,H⟩:=iA H
         have V7:=eq_true GU
         have air:=decide_eq_true GU
         try have aiE:(9223372036854775807 < ((fG ++ (⟨#[64]⟩:ByteArray)) ++ (cV ByteArray.empty cC oF)).size + 1)=False:=eq_false (Nat.not_lt.2 GU)
         try (have acS:=aiE;simp only [ByteArray.size_append] at acS)
         try have atX:(9223372036854775807 < (fG.size + 1 + (cV ByteArray.empty cC oF).size) + 1)=False:=acS
         have H':=aa.mk H
         clear H
         have Kr:wr.cell? ⟨iP,0,none⟩=some (.bool false):=(ah eT.out 0).trans rfl
         have Ks:wr.cell? ⟨iP,1,none⟩=some (.slice fC cC.length fD):=(ah eT.out 1).trans rfl
         have Kt:wr.cell? ⟨iP,2,none⟩=some (.string cg):=(ah eT.out 2).trans rfl
         have Ku:wr.cell? ⟨iP,3,none⟩=some (.string cN):=(ah eT.out 3).trans rfl
         have Kv:wr.cell? ⟨iP,4,none⟩=some (.bool cR):=(ah eT.out 4).trans rfl
         have Kw:=af eT.out 0
         have Ky:=af eT.out 1
         have Kz:=af eT.out 2
         have KA:=af eT.out 3
         have KB:=af eT.out 4
         have OZ: 0≤(oF:Int):=of_decide_eq_true bp
         have O0:oF < (cC.length:Int):=of_decide_eq_true bp
         obtain ⟨aiD,aew,vB⟩:=Kd.cY mI.out oF OZ O0
         cases aew
         replace vB:=(HB.out.cell (World.block_lt_of_cell? w _ vB)).trans vB
         replace OZ:=eq_true OZ
         replace O0:=eq_true O0
         go_wp2
         go_roundg k2
         case measure=>have:=HJ4.out;have:=uI.out;omega
         case rel=>exact ⟨(((fG ++ (⟨#[64]⟩:ByteArray)) ++ (cV ByteArray.empty cC oF)) ++ (⟨#[58]⟩:ByteArray)),(wrap64 (oF + 1)),b9,b9,H',⟨by have:=HJ4.out;have:=uI.out;omega⟩,⟨xQ⟩,⟨uN⟩⟩
       ·rw [if_neg c15] at H
        have tL:=decide_eq_false c15
        clear c15
        obtain ⟨MI,A24,H⟩:=bd_ H
        obtain ⟨Hx,H⟩:=iA H
        have Su:=eq_true Hx
        have ag1:=decide_eq_true Hx
        try have atY:(9223372036854775807 < fG.size + MI.size)=False:=eq_false (Nat.not_lt.2 Hx)
        obtain ⟨LZ,H⟩:=iA H
        have Q5:=eq_true LZ
        have ag2:=decide_eq_true LZ
        try have aiF:(9223372036854775807 < (fG ++ MI).size + 1)=False:=eq_false (Nat.not_lt.2 LZ)
        try (have acT:=aiF;simp only [ByteArray.size_append] at acT)
        try have atZ:(9223372036854775807 < (fG.size + MI.size) + 1)=False:=acT
        obtain rfl:=Option.some.inj H
        have uZ:wr.cell? ⟨iP,0,none⟩=some (.bool false):=(ah eT.out 0).trans rfl
        have u5:wr.cell? ⟨iP,1,none⟩=some (.slice fC cC.length fD):=(ah eT.out 1).trans rfl
        have yA:wr.cell? ⟨iP,2,none⟩=some (.string cg):=(ah eT.out 2).trans rfl
        have yB:wr.cell? ⟨iP,3,none⟩=some (.string cN):=(ah eT.out 3).trans rfl
        have yC:wr.cell? ⟨iP,4,none⟩=some (.bool cR):=(ah eT.out 4).trans rfl
        have u7:=af eT.out 0
        have u9:=af eT.out 1
        have yD:=af eT.out 2
        have yE:=af eT.out 3
        have yF:=af eT.out 4
        go_wp2_with (first|((with_reducible refine aK (f:=88) rfl ?_);refine bU (some 50) rfl rfl Tryz.func88 aq rfl #[.agg #[.string cg,.string cN,.bool cR]] rfl cz ?_;(with_reducible refine (bH.calls k2 cg cN cR MI _ A24.out).mono ?_);rintro e w28 ⟨rfl,hb⟩;refine ⟨_,rfl,?_⟩;replace eT:=aa.mk (aC xQ hb);replace HB:=aa.mk (aA uN hb);(try clear hb)))
        go_ret
        exact ⟨cH,uN⟩
end Go.Proofs.YtokpnfljjjjikaaGreatDoor.mY
