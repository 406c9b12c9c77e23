import Derived.Test.YtokpnfljjjjikaaGreatDoorEInner
namespace Go.Proofs.YtokpnfljjjjikaaGreatDoor.nK
open Go.RowKit Go.Proofs.aj.bQ Go.Proofs.aj.fR Go.Proofs.aj.cM
attribute [local go_sem] iY iZ ku kA ig ij jc jd
set_option linter.unusedVariables false
set_option linter.unusedSimpArgs false
def bT.j0:Nat→Bool→ByteArray→Int→Bool→List ByteArray→ByteArray→ByteArray→Bool→Option (Bool×List ByteArray×ByteArray×ByteArray×Bool×Int×Int)
 | 0,_,_,_,_,_,_,_,_ =>none
 |k + 1,x22,ae8,XP,XQ,JN,RA,RB,RD=>if x22=true then (some (false,([]:List ByteArray),(⟨#[]⟩:ByteArray),(⟨#[]⟩:ByteArray),false,0,150)) else ((ey.f k RA RB RD).bind fun t229=>(if t229=true then (if (JN.length:Int) > 20 then (some (false,([]:List ByteArray),(⟨#[]⟩:ByteArray),(⟨#[]⟩:ByteArray),false,0,3)) else ((bu.f k JN).bind fun t230=>(if t230=true then (some (false,([]:List ByteArray),(⟨#[]⟩:ByteArray),(⟨#[]⟩:ByteArray),false,0,3)) else (some (XQ,JN,RA,RB,RD,XP,0))))) else (some (false,([]:List ByteArray),(⟨#[]⟩:ByteArray),(⟨#[]⟩:ByteArray),false,0,3))))
def bT.f (k:Nat) (a0:ByteArray):Option (Bool×List ByteArray×ByteArray×ByteArray×Bool×Int×Int):=(strings_HasPrefix.f a0 (⟨#[60,62]⟩:ByteArray)).bind fun t210=>(if t210=true then (some (true,([]:List ByteArray),(⟨#[]⟩:ByteArray),(⟨#[]⟩:ByteArray),false,2,0)) else ((bf.f a0 0 60).bind fun rW=>((cT.f k rW.2.1 rW.2.2).bind fun dn=>(if rW.1=true then (if dn.2.2.2.2.2.1=true then ((bf.f dn.2.2.2.2.2.2.1 dn.2.2.2.2.2.2.2 62).bind fun kG=>(bT.j0 k (!kG.1) kG.2.1 kG.2.2 dn.1 dn.2.1 dn.2.2.1 dn.2.2.2.1 dn.2.2.2.2.1)) else (bT.j0 k true dn.2.2.2.2.2.2.1 dn.2.2.2.2.2.2.2 dn.1 dn.2.1 dn.2.2.1 dn.2.2.2.1 dn.2.2.2.2.1)) else (bT.j0 k true dn.2.2.2.2.2.2.1 dn.2.2.2.2.2.2.2 dn.1 dn.2.1 dn.2.2.1 dn.2.2.2.1 dn.2.2.2.2.1)))))
theorem bT.fJ:∀ k,(∀ y0 y1 y2 y3 y4 y5 y6 y7,cH (bT.j0 k y0 y1 y2 y3 y4 y5 y6 y7) (bT.j0 (k + 1) y0 y1 y2 y3 y4 y5 y6 y7))
 | 0=>fun _ _ _ _ _ _ _ _ r h=>by simp [bT.j0] at h
 |k + 1=>by
  have nP:=bT.fJ k
  ·intro y0 y1 y2 y3 y4 y5 y6 y7
   unfold bT.j0
   repeat' first
   |(with_reducible exact nP _ _ _ _ _ _ _ _)
   |(with_reducible exact cT.mono _ _ _)
   |(with_reducible exact ey.mono _ _ _ _)
   |(with_reducible exact bu.mono _ _)
   |(with_reducible exact cH.refl _)
   |(with_reducible exact cH.none _)
   |(with_reducible refine cH.ite ?_ ?_)
   |(with_reducible refine cH.bind ?_ (fun _ =>?_))
   |refine cH.ite ?_ ?_
   |refine cH.bind ?_ (fun _ =>?_)
theorem bT.mono:∀ a0 k,cH (bT.f k a0) (bT.f (k + 1) a0):=by
 intro a0 k
 have nP:=bT.fJ k
 unfold bT.f
 repeat' first
  |(with_reducible exact nP _ _ _ _ _ _ _ _)
  |(with_reducible exact cT.mono _ _ _)
  |(with_reducible exact ey.mono _ _ _ _)
  |(with_reducible exact bu.mono _ _)
  |(with_reducible exact cH.refl _)
  |(with_reducible exact cH.none _)
  |(with_reducible refine cH.ite ?_ ?_)
  |(with_reducible refine cH.bind ?_ (fun _ =>?_))
  |refine cH.ite ?_ ?_
  |refine cH.bind ?_ (fun _ =>?_)
def bT.T10:Bool×List (List Nat×List Nat):=(true,[([],[]),([],[]),([1],[1]),([2],[2]),([3],[3]),([0,0],[0]),([4,5,0,1,2,3,4,5],[4]),([6,0,1,2,3,4,5,6],[])])
def bT.B10:List Nat:=[0,0,2,6,14,1,63,127]
theorem bT.adC:rR .any (opsOf Tryz.f17 10)=bT.T10:=by kernel_rfl
theorem bT.aaW:uE bT.T10.2 bT.B10=true:=by kernel_rfl
set_option maxHeartbeats 8000000 in
set_option maxRecDepth 100000 in
theorem bT.calls (k:Nat) (a0:ByteArray) (r1:Bool) (r2:List ByteArray) (r3:ByteArray) (r4:ByteArray) (r5:Bool) (r6:Int) (r7:Int) (w:World) (hG:aQ w) (h:bT.f k a0=some (r1,r2,r3,r4,r5,r6,r7)):
 Calls Tryz.prog 17 #[.string a0] w fun e w'=>∃ Rz:Value,e= .returned (.tuple #[.agg #[.bool r1,Rz,.string r3,.string r4,.bool r5],.int .i64 r6,.int .i64 r7])∧Kd.R Kd.string 9 w' w.heap.size (fun _ =>True) Rz r2∧Below w.heap.size w w':=by
 have Oc:=Tryz.underlying32
 have ah7:=Tryz.underlying82
 have LR:=Tryz.underlying30
 have HB:=ah.mk (Below.refl w.heap.size w)
 have HG:=ah.mk hG
 clear hG
 have H:((strings_HasPrefix.f a0 (⟨#[60,62]⟩:ByteArray)).bind fun t210=>(if t210=true then (some (true,([]:List ByteArray),(⟨#[]⟩:ByteArray),(⟨#[]⟩:ByteArray),false,2,0)) else ((bf.f a0 0 60).bind fun rW=>((cT.f k rW.2.1 rW.2.2).bind fun dn=>(if rW.1=true then (if dn.2.2.2.2.2.1=true then ((bf.f dn.2.2.2.2.2.2.1 dn.2.2.2.2.2.2.2 62).bind fun kG=>(bT.j0 k (!kG.1) kG.2.1 kG.2.2 dn.1 dn.2.1 dn.2.2.1 dn.2.2.2.1 dn.2.2.2.2.1)) else (bT.j0 k true dn.2.2.2.2.2.2.1 dn.2.2.2.2.2.2.2 dn.1 dn.2.1 dn.2.2.1 dn.2.2.2.1 dn.2.2.2.2.1)) else (bT.j0 k true dn.2.2.2.2.2.2.1 dn.2.2.2.2.2.2.2 dn.1 dn.2.1 dn.2.2.1 dn.2.2.2.1 dn.2.2.2.2.1))))))=some (r1,r2,r3,r4,r5,r6,r7):=h
 clear h
 replace H:=Option.bind_eq_some_iff.mp H
 obtain ⟨t210,nr,H⟩:=H
 replace H:(if t210=true then (some (true,([]:List ByteArray),(⟨#[]⟩:ByteArray),(⟨#[]⟩:ByteArray),false,2,0)) else ((bf.f a0 0 60).bind fun rW=>((cT.f k rW.2.1 rW.2.2).bind fun dn=>(if rW.1=true then (if dn.2.2.2.2.2.1=true then ((bf.f dn.2.2.2.2.2.2.1 dn.2.2.2.2.2.2.2 62).bind fun kG=>(bT.j0 k (!kG.1) kG.2.1 kG.2.2 dn.1 dn.2.1 dn.2.2.1 dn.2.2.2.1 dn.2.2.2.2.1)) else (bT.j0 k true dn.2.2.2.2.2.2.1 dn.2.2.2.2.2.2.2 dn.1 dn.2.1 dn.2.2.1 dn.2.2.2.1 dn.2.2.2.2.1)) else (bT.j0 k true dn.2.2.2.2.2.2.1 dn.2.2.2.2.2.2.2 dn.1 dn.2.1 dn.2.2.1 dn.2.2.2.1 dn.2.2.2.2.1)))))=some (r1,r2,r3,r4,r5,r6,r7):=H
 have A2:=ah.mk nr
 clear nr
 by_cases c3:t210=true
 ·subst c3
  have H1:(some (true,([]:List ByteArray),(⟨#[]⟩:ByteArray),(⟨#[]⟩:ByteArray),false,2,0))=some (r1,r2,r3,r4,r5,r6,r7):=by rw [if_pos rfl] at H;exact H
  clear H
  have H:=H1
  clear H1
  simp only [Option.some.injEq,Prod.mk.injEq] at H
  obtain ⟨rfl,rfl,rfl,rfl,rfl,rfl,rfl⟩:=H
  go_enter Tryz.func17,Tryz.ntmps17
  go_wp2_with (first|((with_reducible refine cQ (N:=2) rfl ?_);(try (refine dS (by rfl) ?_;dsimp only));refine cE ?hg (N:=2) ?hd (cs:=#[.bool false,.slice none 0 0,.string (⟨#[]⟩:ByteArray),.string (⟨#[]⟩:ByteArray),.bool false]) (t:=32) ?hr ?_;(case hd=>rfl);(case hg=>rfl);(case hr=>first|(go_simp;done)|(go_simp;rfl));intro dP hg w4 cY hb;have bL:=ah.mk (aC cw hb);have bS:=ah.mk (cY);have cG:=ah.mk ((dQ:w.heap.size≤dP));have dA:=ah.mk ((dQ:w.heap.size≤dP));clear HB;have HB:=bL;have dJ:=bS;have adD:=cG;have yZ:=dA;clear bL bS cG dA;clear hb cY hg)|((with_reducible refine aU (f:=37) rfl ?_);refine cB (some 10) rfl rfl Tryz.func37 av rfl #[.string a0,.string (⟨#[60,62]⟩:ByteArray)] rfl cX ?_;(with_reducible refine (strings_HasPrefix.calls a0 (⟨#[60,62]⟩:ByteArray) true _ A2.out).mono ?_);rintro e w' ⟨rfl,⟨nd,rfl⟩⟩;refine ⟨_,rfl,?_⟩;(try (rw [EO w4];generalize hq_:World.drewN w4 _=w4;have bL:ah (w4.heap[dP]? =some (.cells #[.bool false,.slice none 0 0,.string (⟨#[]⟩:ByteArray),.string (⟨#[]⟩:ByteArray),.bool false] 32 (0,0))):=⟨PY⟩;have bS:ah (Below w.heap.size w w4):=⟨PU⟩;clear dJ HB hq_;have dJ:=bL;have HB:=bS;clear bL bS));have wW:w4.cell? ⟨dP,0,none⟩=some (.bool false):=(af dJ.out 0).trans rfl;have wX:w4.cell? ⟨dP,1,none⟩=some (.slice none 0 0):=(af dJ.out 1).trans rfl;have zy:w4.cell? ⟨dP,2,none⟩=some (.string (⟨#[]⟩:ByteArray)):=(af dJ.out 2).trans rfl;have B0:w4.cell? ⟨dP,3,none⟩=some (.string (⟨#[]⟩:ByteArray)):=(af dJ.out 3).trans rfl;have B6:w4.cell? ⟨dP,4,none⟩=some (.bool false):=(af dJ.out 4).trans rfl;have wY:=aa dJ.out 0;have wZ:=aa dJ.out 1;have zz:=aa dJ.out 2;have Ca:=aa dJ.out 3;have Cb:=aa dJ.out 4))
  refine bodyPost_ret (oJ rfl _ _ dP 32 #[.bool true,.slice none 0 0,.string (⟨#[]⟩:ByteArray),.string (⟨#[]⟩:ByteArray),.bool false] (0,0) _ rfl (by (with_reducible repeat (first|refine bF ?_ _|refine bN ?_|refine bB ?_ _));refine cZ (cs:=#[.bool true,.slice none 0 0,.string (⟨#[]⟩:ByteArray),.string (⟨#[]⟩:ByteArray),.bool false]) ?_ 4 _ rfl;(with_reducible repeat (first|refine bF ?_ _|refine bN ?_|refine bB ?_ _));refine cZ (cs:=#[.bool true,.slice none 0 0,.string (⟨#[]⟩:ByteArray),.string (⟨#[]⟩:ByteArray),.bool false]) ?_ 3 _ rfl;(with_reducible repeat (first|refine bF ?_ _|refine bN ?_|refine bB ?_ _));refine cZ (cs:=#[.bool true,.slice none 0 0,.string (⟨#[]⟩:ByteArray),.string (⟨#[]⟩:ByteArray),.bool false]) ?_ 2 _ rfl;(with_reducible repeat (first|refine bF ?_ _|refine bN ?_|refine bB ?_ _));refine cZ (cs:=#[.bool true,.slice none 0 0,.string (⟨#[]⟩:ByteArray),.string (⟨#[]⟩:ByteArray),.bool false]) ?_ 1 _ rfl;(with_reducible repeat (first|refine bF ?_ _|refine bN ?_|refine bB ?_ _));refine cZ (cs:=#[.bool false,.slice none 0 0,.string (⟨#[]⟩:ByteArray),.string (⟨#[]⟩:ByteArray),.bool false]) ?_ 0 _ rfl;(with_reducible repeat (first|refine bF ?_ _|refine bN ?_|refine bB ?_ _));exact dJ.out) Tryz.underlying32 rfl av) rfl ?_
  exact ⟨_,cO,BL,T5⟩
 ·replace c3:=Bool.eq_false_iff.mpr c3
  subst c3
  have H1:((bf.f a0 0 60).bind fun rW=>((cT.f k rW.2.1 rW.2.2).bind fun dn=>(if rW.1=true then (if dn.2.2.2.2.2.1=true then ((bf.f dn.2.2.2.2.2.2.1 dn.2.2.2.2.2.2.2 62).bind fun kG=>(bT.j0 k (!kG.1) kG.2.1 kG.2.2 dn.1 dn.2.1 dn.2.2.1 dn.2.2.2.1 dn.2.2.2.2.1)) else (bT.j0 k true dn.2.2.2.2.2.2.1 dn.2.2.2.2.2.2.2 dn.1 dn.2.1 dn.2.2.1 dn.2.2.2.1 dn.2.2.2.2.1)) else (bT.j0 k true dn.2.2.2.2.2.2.1 dn.2.2.2.2.2.2.2 dn.1 dn.2.1 dn.2.2.1 dn.2.2.2.1 dn.2.2.2.2.1))))=some (r1,r2,r3,r4,r5,r6,r7):=by rw [if_neg (show ¬ (false=true) by decide)] at H;exact H
  clear H
  have H:=H1
  clear H1
  replace H:=Option.bind_eq_some_iff.mp H
  obtain ⟨⟨t212,t213,t214⟩,wK,H⟩:=H
  replace H:((cT.f k t213 t214).bind fun dn=>(if t212=true then (if dn.2.2.2.2.2.1=true then ((bf.f dn.2.2.2.2.2.2.1 dn.2.2.2.2.2.2.2 62).bind fun kG=>(bT.j0 k (!kG.1) kG.2.1 kG.2.2 dn.1 dn.2.1 dn.2.2.1 dn.2.2.2.1 dn.2.2.2.2.1)) else (bT.j0 k true dn.2.2.2.2.2.2.1 dn.2.2.2.2.2.2.2 dn.1 dn.2.1 dn.2.2.1 dn.2.2.2.1 dn.2.2.2.2.1)) else (bT.j0 k true dn.2.2.2.2.2.2.1 dn.2.2.2.2.2.2.2 dn.1 dn.2.1 dn.2.2.1 dn.2.2.2.1 dn.2.2.2.2.1)))=some (r1,r2,r3,r4,r5,r6,r7):=H
  have A6:=ah.mk wK
  clear wK
  replace H:=Option.bind_eq_some_iff.mp H
  obtain ⟨⟨t215,t216,t219,t220,t221,t222,t223,t224⟩,GJ,H⟩:=H
  replace H:(if t212=true then (if t222=true then ((bf.f t223 t224 62).bind fun kG=>(bT.j0 k (!kG.1) kG.2.1 kG.2.2 t215 t216 t219 t220 t221)) else (bT.j0 k true t223 t224 t215 t216 t219 t220 t221)) else (bT.j0 k true t223 t224 t215 t216 t219 t220 t221))=some (r1,r2,r3,r4,r5,r6,r7):=H
  have A7:=ah.mk GJ
  clear GJ
  have HC8:=ah.mk H
  clear H
  go_enter Tryz.func17,Tryz.ntmps17
  go_upto_region 6 with (first|((with_reducible refine cQ (N:=2) rfl ?_);(try (refine dS (by rfl) ?_;dsimp only));refine cE ?hg (N:=2) ?hd (cs:=#[.bool false,.slice none 0 0,.string (⟨#[]⟩:ByteArray),.string (⟨#[]⟩:ByteArray),.bool false]) (t:=32) ?hr ?_;(case hd=>rfl);(case hg=>rfl);(case hr=>first|(go_simp;done)|(go_simp;rfl));intro dP hg w9 cY hb;have bL:=ah.mk (aC cw hb);have bS:=ah.mk (cY);have cG:=ah.mk ((dQ:w.heap.size≤dP));have dA:=ah.mk ((dQ:w.heap.size≤dP));clear HB;have HB:=bL;have dJ:=bS;have adD:=cG;have yZ:=dA;clear bL bS cG dA;clear hb cY hg)|((with_reducible refine aU (f:=37) rfl ?_);refine cB (some 10) rfl rfl Tryz.func37 av rfl #[.string a0,.string (⟨#[60,62]⟩:ByteArray)] rfl cX ?_;(with_reducible refine (strings_HasPrefix.calls a0 (⟨#[60,62]⟩:ByteArray) false _ A2.out).mono ?_);rintro e w' ⟨rfl,⟨nd,rfl⟩⟩;refine ⟨_,rfl,?_⟩;(try (rw [EO w9];generalize hq_:World.drewN w9 _=w9;have bL:ah (w9.heap[dP]? =some (.cells #[.bool false,.slice none 0 0,.string (⟨#[]⟩:ByteArray),.string (⟨#[]⟩:ByteArray),.bool false] 32 (0,0))):=⟨PY⟩;have bS:ah (Below w.heap.size w w9):=⟨PU⟩;clear dJ HB hq_;have dJ:=bL;have HB:=bS;clear bL bS)))|((with_reducible refine cQ (N:=14) rfl ?_);(try (refine dS (by rfl) ?_;dsimp only));refine cE ?hg (N:=14) ?hd (cs:=#[.string a0,.int .i64 0]) (t:=82) ?hr ?_;(case hd=>rfl);(case hg=>rfl);(case hr=>first|(go_simp;done)|(go_simp;rfl));intro pT hg sw cY hb;have bL:=ah.mk (aX (g:=dP) (o:= .cells #[.bool false,.slice none 0 0,.string (⟨#[]⟩:ByteArray),.string (⟨#[]⟩:ByteArray),.bool false] 32 (0,0)) rL hb);have bS:=ah.mk (aC T5 hb);have cG:=ah.mk ((⟨cY,NT⟩:ay w sw pT a0 0));have dA:=ah.mk ((NT:w.heap.size≤pT));have mG:=ah.mk ((NT:w.heap.size≤pT));have rS:=ah.mk ((Uk:dP≠pT));have sL:=ah.mk ((Ul:pT≠dP));clear dJ;clear HB;have dJ:=bL;have HB:=bS;have gy:=cG;have aj1:=dA;have aj2:=mG;have qd:=rS;have kM:=sL;clear bL bS cG dA mG rS sL;clear hb cY hg)|((with_reducible refine aU (f:=56) rfl ?_);refine cB (some 16) rfl rfl Tryz.func56 av rfl #[.pointer (some ⟨pT,0,none⟩),.int .u8 60] rfl cX ?_;(with_reducible refine (bf.calls pT a0 0 60 t212 t213 t214 w _ ?aW ?bY A6.out).mono ?_);(case aW=>repeat (first|(with_reducible first|exact gy.out|apply ay.alloc|apply ay.drewN|apply ay.drew|apply ay.fH|apply ay.fD|refine ay.far ?_ kM.out _)|exact gy.out));(case bY=>repeat (first|(with_reducible first|exact HB.out|apply aG|apply aM|apply bn|refine bh ?_ (ay.ge gy.out)|refine bh ?_ yZ.out)|exact HB.out));rintro e w11 ⟨rfl,hi,hb,hk⟩;refine ⟨_,rfl,?_⟩;have bL:=ah.mk (br.blk hk (g':=dP) (o:= .cells #[.bool false,.slice none 0 0,.string (⟨#[]⟩:ByteArray),.string (⟨#[]⟩:ByteArray),.bool false] 32 (0,0)) rL qd.out aV);have bS:=ah.mk (hb);have cG:=ah.mk (hi);clear dJ;clear HB;clear gy;have dJ:=bL;have HB:=bS;have gy:=cG;clear bL bS cG;(try clear hb);(try clear hb2);(try clear hk);(try clear hi))|((with_reducible refine aU (f:=57) rfl ?_);refine cB (some 19) rfl rfl Tryz.func57 av rfl #[.pointer (some ⟨pT,0,none⟩)] rfl cX ?_;(with_reducible refine (cT.calls k pT t213 t214 t215 t216 t219 t220 t221 t222 t223 t224 w _ ?aW ?bY ?eO A7.out).mono ?_);(case aW=>repeat (first|(with_reducible first|exact gy.out|apply ay.alloc|apply ay.drewN|apply ay.drew|apply ay.fH|apply ay.fD|refine ay.far ?_ kM.out _)|exact gy.out));(case bY=>repeat (first|(with_reducible first|exact HB.out|apply aG|apply aM|apply bn|refine bh ?_ (ay.ge gy.out)|refine bh ?_ yZ.out)|exact HB.out));(case eO=>exact HG.out);rintro e SJ ⟨alZ,rfl,ho0,hi,hb,hk⟩;refine ⟨_,rfl,?_⟩;have bL:=ah.mk (br.blk hk (g':=dP) (o:= .cells #[.bool false,.slice none 0 0,.string (⟨#[]⟩:ByteArray),.string (⟨#[]⟩:ByteArray),.bool false] 32 (0,0)) rL qd.out aV);have bS:=ah.mk (Kd.kr ho0 (fL Ue));have cG:=ah.mk (hb);have dA:=ah.mk (hi);clear dJ;clear HB;clear gy;have dJ:=bL;have Cs:=bS;have HB:=cG;have gy:=dA;clear bL bS cG dA;(try clear hb);(try clear hb2);(try clear hk);(try clear hi);(try clear ho0))|((with_reducible refine cQ (N:=7) rfl ?_);(try (refine dS (by rfl) ?_;dsimp only));refine cE ?hg (N:=7) ?hd (cs:=#[.bool false,.slice none 0 0,.string (⟨#[]⟩:ByteArray),.string (⟨#[]⟩:ByteArray),.bool false]) (t:=32) ?hr ?_;(case hd=>rfl);(case hg=>rfl);(case hr=>first|(go_simp;done)|(go_simp;rfl));intro fE hg nj cY hb;have bL:=ah.mk (Kd.fB P6 hb);have bS:=ah.mk (aX (g:=dP) (o:= .cells #[.bool false,.slice none 0 0,.string (⟨#[]⟩:ByteArray),.string (⟨#[]⟩:ByteArray),.bool false] 32 (0,0)) rL hb);have cG:=ah.mk (ay.below (by repeat (first|(with_reducible first|exact gy.out|apply ay.alloc|apply ay.drewN|apply ay.drew|apply ay.fH|apply ay.fD|refine ay.far ?_ kM.out _)|exact gy.out)) hb);have dA:=ah.mk (aC Ue hb);have mG:=ah.mk (cY);have rS:=ah.mk ((PN:w.heap.size≤fE));have sL:=ah.mk ((PN:w.heap.size≤fE));have Ml:=ah.mk ((Uk:dP≠fE));have RF:=ah.mk ((Ul:fE≠dP));have n9_ :=ah.mk ((by rw [hg];exact Nat.ne_of_lt (ay.lt (show ay w _ pT t223 t224 from by repeat (first|(with_reducible first|exact gy.out|apply ay.alloc|apply ay.drewN|apply ay.drew|apply ay.fH|apply ay.fD|refine ay.far ?_ kM.out _)|exact gy.out))):pT≠fE));have adE:=ah.mk ((by rw [hg];exact Nat.ne_of_gt (ay.lt (show ay w _ pT t223 t224 from by repeat (first|(with_reducible first|exact gy.out|apply ay.alloc|apply ay.drewN|apply ay.drew|apply ay.fH|apply ay.fD|refine ay.far ?_ kM.out _)|exact gy.out))):fE≠pT));clear Cs;clear dJ;clear gy;clear HB;have Cs:=bL;have dJ:=bS;have gy:=cG;have HB:=dA;have dF:=mG;have aj4:=rS;have Zr:=sL;have ji:=Ml;have eG:=RF;have oH:=n9_;have rH:=adE;clear bL bS cG dA mG rS sL Ml RF n9_ adE;clear hb cY hg;have acZ:=eG.out;have ac0:=ji.out;have adF:=rH.out;have adG:=oH.out;have nu:nj.cell? ⟨fE,0,none⟩=some (.bool false):=(af dF.out 0).trans rfl;have nv:nj.cell? ⟨fE,1,none⟩=some (.slice none 0 0):=(af dF.out 1).trans rfl;have qp:nj.cell? ⟨fE,2,none⟩=some (.string (⟨#[]⟩:ByteArray)):=(af dF.out 2).trans rfl;have sM:nj.cell? ⟨fE,3,none⟩=some (.string (⟨#[]⟩:ByteArray)):=(af dF.out 3).trans rfl;have sN:nj.cell? ⟨fE,4,none⟩=some (.bool false):=(af dF.out 4).trans rfl;have ny:=aa dF.out 0;have nA:=aa dF.out 1;have qq:=aa dF.out 2;have sO:=aa dF.out 3;have sP:=aa dF.out 4;obtain ⟨pN,pO,aaX⟩:=Kd.fI Cs.out;subst aaX))
  (try simp only [Act.put,List.setIfInBounds_toArray,List.set_cons_zero,List.set_cons_succ])
  go_cut [22] (fun v22 wc=>∃ (kq:Nat) (RG:Bool) (yL:ByteArray) (nD:Int),v22= .bool RG∧ah (bT.j0 kq RG yL nD t215 t216 t219 t220 t221=some (r1,r2,r3,r4,r5,r6,r7))∧ah (kq≤k)∧ah (Kd.R Kd.string 9 wc w.heap.size (fun _ =>True) (.slice pN t216.length pO) t216)∧ah (wc.heap[dP]? =some (.cells #[.bool false,(.slice none 0 0),.string (⟨#[]⟩:ByteArray),.string (⟨#[]⟩:ByteArray),.bool false] 32 (0,0)))∧ah (wc.heap[fE]? =some (.cells #[.bool t215,(.slice pN t216.length pO),.string t219,.string t220,.bool t221] 32 (0,0)))∧ah (ay w wc pT yL nD)∧ah (Below w.heap.size w wc))
  case first=>
   have H:=HC8.out
   clear HC8
   by_cases c18:t212=true
   ·subst c18
    have H1:(if t222=true then ((bf.f t223 t224 62).bind fun kG=>(bT.j0 k (!kG.1) kG.2.1 kG.2.2 t215 t216 t219 t220 t221)) else (bT.j0 k true t223 t224 t215 t216 t219 t220 t221))=some (r1,r2,r3,r4,r5,r6,r7):=by rw [if_pos rfl] at H;exact H
    clear H
    have H:=H1
    clear H1
    by_cases c19:t222=true
    ·subst c19
     have H1:((bf.f t223 t224 62).bind fun kG=>(bT.j0 k (!kG.1) kG.2.1 kG.2.2 t215 t216 t219 t220 t221))=some (r1,r2,r3,r4,r5,r6,r7):=by rw [if_pos rfl] at H;exact H
     clear H
     have H:=H1
     clear H1
     replace H:=Option.bind_eq_some_iff.mp H
     obtain ⟨⟨t226,t227,t228⟩,Vm,H⟩:=H
     replace H:(bT.j0 k (!t226) t227 t228 t215 t216 t219 t220 t221)=some (r1,r2,r3,r4,r5,r6,r7):=H
     have nr:=ah.mk Vm
     clear Vm
     have H':=ah.mk H
     clear H
     go_wp2_with (first|(go_at_call 56;(with_reducible refine (bf.calls pT t223 t224 62 t226 t227 t228 w _ ?aW ?bY nr.out).mono ?_);(case aW=>repeat (first|(with_reducible first|exact gy.out|apply ay.alloc|apply ay.drewN|apply ay.drew|apply ay.fH|apply ay.fD|refine ay.far ?_ kM.out _|refine ay.far ?_ oH.out _)|exact gy.out));(case bY=>repeat (first|(with_reducible first|exact HB.out|apply aG|apply aM|apply bn|refine bh ?_ (ay.ge gy.out)|refine bh ?_ yZ.out|refine bh ?_ Zr.out)|exact HB.out));rintro e XO ⟨rfl,hi,hb,hk⟩;have bL:=ah.mk (br.blk hk (g':=dP) (o:= .cells #[.bool false,.slice none 0 0,.string (⟨#[]⟩:ByteArray),.string (⟨#[]⟩:ByteArray),.bool false] 32 (0,0)) NC qd.out aV);have bS:=ah.mk (Kd.gL (Kd.rQ (ay.apart (show ay w _ pT t223 t224 from by repeat (first|(with_reducible first|exact gy.out|apply ay.alloc|apply ay.drewN|apply ay.drew|apply ay.fH|apply ay.fD|refine ay.far ?_ kM.out _|refine ay.far ?_ oH.out _)|exact gy.out)) (by (with_reducible repeat (first|apply Kd.iD|apply Kd.iL|apply Kd.jT));exact (Kd.gL (Kd.eu (p:=⟨fE,4,none⟩) (Kd.eu (p:=⟨fE,3,none⟩) (Kd.eu (p:=⟨fE,2,none⟩) (Kd.eu (p:=⟨fE,1,none⟩) (Kd.eu (p:=⟨fE,0,none⟩) (Kd.nk Cs.out dF.out bG) (fun _ hk=>hk.2) (.bool t215)) (fun _ hk=>hk.2) (.slice pN t216.length pO)) (fun _ hk=>hk.2) (.string t219)) (fun _ hk=>hk.2) (.string t220)) (fun _ hk=>hk.2) (.bool t221)) (fun _ h_ =>h_.1))) bG) hk (fun _ h=>h.2)) (fun _ h=>h.1));have cG:=ah.mk (br.blk hk (g':=fE) (o:= .cells #[.bool t215,.slice pN t216.length pO,.string t219,.string t220,.bool t221] 32 (0,0)) NB rH.out aV);have dA:=ah.mk (hb);have mG:=ah.mk (hi);clear dJ;clear Cs;clear dF;clear HB;clear gy;have dJ:=bL;have Cs:=bS;have dF:=cG;have HB:=dA;have gy:=mG;clear bL bS cG dA mG;(try clear hb);(try clear hb2);(try clear hk);(try clear hi)))
     go_meet
     case rel=>exact ⟨_,(!t226),(t227),(t228),dG,H',⟨mJ⟩,⟨P6⟩,⟨rL⟩,⟨zk⟩,⟨uv⟩,⟨lB⟩⟩
    ·replace c19:=Bool.eq_false_iff.mpr c19
     subst c19
     have H1:(bT.j0 k true t223 t224 t215 t216 t219 t220 t221)=some (r1,r2,r3,r4,r5,r6,r7):=by rw [if_neg (show ¬ (false=true) by decide)] at H;exact H
     clear H
     have H:=H1
     clear H1
     have H':=ah.mk H
     clear H
     go_wp2
     go_meet
     case rel=>exact ⟨_,(true),(t223),(t224),dG,H',⟨mJ⟩,⟨Uf⟩,⟨NC⟩,⟨NB⟩,⟨uv⟩,⟨lB⟩⟩
   ·replace c18:=Bool.eq_false_iff.mpr c18
    subst c18
    have H1:(bT.j0 k true t223 t224 t215 t216 t219 t220 t221)=some (r1,r2,r3,r4,r5,r6,r7):=by rw [if_neg (show ¬ (false=true) by decide)] at H;exact H
    clear H
    have H:=H1
    clear H1
    have H':=ah.mk H
    clear H
    go_wp2
    go_meet
    case rel=>exact ⟨_,(true),(t223),(t224),dG,H',⟨mJ⟩,⟨Uf⟩,⟨NC⟩,⟨NB⟩,⟨uv⟩,⟨lB⟩⟩
  case rest=>
   clear HC8
   try clear c1
   try clear p2
   try clear c3
   try clear c5
   try clear c14
   try clear c15
   try clear c17
   try clear c18
   try clear c19
   try clear nu
   try clear nv
   try clear qp
   try clear sM
   try clear sN
   try clear wW
   try clear wX
   try clear zy
   try clear B0
   try clear B6
   try clear ny
   try clear nA
   try clear qq
   try clear sO
   try clear sP
   try clear wY
   try clear wZ
   try clear zz
   try clear Ca
   try clear Cb
   obtain ⟨kq,RG,yL,nD,rfl,HA,HJ7,gA,dJ,dF,gy,HB⟩:=hcut
   cases kq with
   |zero=>exact absurd HA.out (by simp [bT.j0])
   |succ WI=>
    have H:=HA.out
    clear HA
    simp only [bT.j0] at H
    by_cases Gf:RG=true
    ·subst Gf
     have H1:(some (false,([]:List ByteArray),(⟨#[]⟩:ByteArray),(⟨#[]⟩:ByteArray),false,0,150))=some (r1,r2,r3,r4,r5,r6,r7):=by rw [if_pos rfl] at H;exact H
     clear H
     have H:=H1
     clear H1
     simp only [Option.some.injEq,Prod.mk.injEq] at H
     obtain ⟨rfl,rfl,rfl,rfl,rfl,rfl,rfl⟩:=H
     have ac5:=ji.out
     have ac6:=eG.out
     have adw:=qd.out
     have adx:=kM.out
     have td:wc.cell? ⟨dP,0,none⟩=some (.bool false):=(af dJ.out 0).trans rfl
     have tj:wc.cell? ⟨dP,1,none⟩=some (.slice none 0 0):=(af dJ.out 1).trans rfl
     have tq:wc.cell? ⟨dP,2,none⟩=some (.string (⟨#[]⟩:ByteArray)):=(af dJ.out 2).trans rfl
     have yw:wc.cell? ⟨dP,3,none⟩=some (.string (⟨#[]⟩:ByteArray)):=(af dJ.out 3).trans rfl
     have yx:wc.cell? ⟨dP,4,none⟩=some (.bool false):=(af dJ.out 4).trans rfl
     have tu:=aa dJ.out 0
     have tv:=aa dJ.out 1
     have tA:=aa dJ.out 2
     have yz:=aa dJ.out 3
     have yA:=aa dJ.out 4
     go_wp2
     refine bodyPost_ret (oJ rfl _ _ dP 32 #[.bool false,.slice none 0 0,.string (⟨#[]⟩:ByteArray),.string (⟨#[]⟩:ByteArray),.bool false] (0,0) _ rfl Hw Tryz.underlying32 rfl av) rfl ?_
     exact ⟨_,cO,BL,lB⟩
    ·replace Gf:=Bool.eq_false_iff.mpr Gf
     subst Gf
     have H1:((ey.f WI t219 t220 t221).bind fun t229=>(if t229=true then (if (t216.length:Int) > 20 then (some (false,([]:List ByteArray),(⟨#[]⟩:ByteArray),(⟨#[]⟩:ByteArray),false,0,3)) else ((bu.f WI t216).bind fun t230=>(if t230=true then (some (false,([]:List ByteArray),(⟨#[]⟩:ByteArray),(⟨#[]⟩:ByteArray),false,0,3)) else (some (t215,t216,t219,t220,t221,nD,0))))) else (some (false,([]:List ByteArray),(⟨#[]⟩:ByteArray),(⟨#[]⟩:ByteArray),false,0,3))))=some (r1,r2,r3,r4,r5,r6,r7):=by rw [if_neg (show ¬ (false=true) by decide)] at H;exact H
     clear H
     have H:=H1
     clear H1
     replace H:=Option.bind_eq_some_iff.mp H
     obtain ⟨t229,adH,H⟩:=H
     replace H:(if t229=true then (if (t216.length:Int) > 20 then (some (false,([]:List ByteArray),(⟨#[]⟩:ByteArray),(⟨#[]⟩:ByteArray),false,0,3)) else ((bu.f WI t216).bind fun t230=>(if t230=true then (some (false,([]:List ByteArray),(⟨#[]⟩:ByteArray),(⟨#[]⟩:ByteArray),false,0,3)) else (some (t215,t216,t219,t220,t221,nD,0))))) else (some (false,([]:List ByteArray),(⟨#[]⟩:ByteArray),(⟨#[]⟩:ByteArray),false,0,3)))=some (r1,r2,r3,r4,r5,r6,r7):=H
     have A26:=ah.mk adH
     clear adH
     by_cases F9:t229=true
     ·subst F9
      have H1:(if (t216.length:Int) > 20 then (some (false,([]:List ByteArray),(⟨#[]⟩:ByteArray),(⟨#[]⟩:ByteArray),false,0,3)) else ((bu.f WI t216).bind fun t230=>(if t230=true then (some (false,([]:List ByteArray),(⟨#[]⟩:ByteArray),(⟨#[]⟩:ByteArray),false,0,3)) else (some (t215,t216,t219,t220,t221,nD,0)))))=some (r1,r2,r3,r4,r5,r6,r7):=by rw [if_pos rfl] at H;exact H
      clear H
      have H:=H1
      clear H1
      by_cases c28:(t216.length:Int) > 20
      ·rw [if_pos c28] at H
       have GQ:decide (20 < (t216.length:Int))=true:=decide_eq_true c28
       have adI:decide (20 < t216.length)=true:=decide_eq_true aq
       clear c28
       simp only [Option.some.injEq,Prod.mk.injEq] at H
       obtain ⟨rfl,rfl,rfl,rfl,rfl,rfl,rfl⟩:=H
       have aj5:=eG.out
       have aj6:=ji.out
       have ZU:=rH.out
       have ZV:=oH.out
       have yH:wc.cell? ⟨fE,0,none⟩=some (.bool t215):=(af dF.out 0).trans rfl
       have yI:wc.cell? ⟨fE,1,none⟩=some (.slice pN t216.length pO):=(af dF.out 1).trans rfl
       have Bf:wc.cell? ⟨fE,2,none⟩=some (.string t219):=(af dF.out 2).trans rfl
       have XR:wc.cell? ⟨fE,3,none⟩=some (.string t220):=(af dF.out 3).trans rfl
       have XS:wc.cell? ⟨fE,4,none⟩=some (.bool t221):=(af dF.out 4).trans rfl
       have yJ:=aa dF.out 0
       have yK:=aa dF.out 1
       have Bg:=aa dF.out 2
       have XT:=aa dF.out 3
       have XU:=aa dF.out 4
       go_wp2_with (first|((with_reducible refine aU (f:=58) rfl ?_);refine cB (some 38) rfl rfl Tryz.func58 av rfl #[.agg #[.string t219,.string t220,.bool t221]] rfl cX ?_;(with_reducible refine (ey.calls WI t219 t220 t221 true _ ?aW A26.out).mono ?_);(case aW=>exact aQ.below HG.out lB);rintro e Fa ⟨rfl,hb⟩;refine ⟨_,rfl,?_⟩;have bL:=ah.mk (Kd.fB BN hb);have bS:=ah.mk (aX (g:=dP) (o:= .cells #[.bool false,.slice none 0 0,.string (⟨#[]⟩:ByteArray),.string (⟨#[]⟩:ByteArray),.bool false] 32 (0,0)) rL hb);have cG:=ah.mk (aX (g:=fE) (o:= .cells #[.bool t215,.slice pN t216.length pO,.string t219,.string t220,.bool t221] 32 (0,0)) zk hb);have dA:=ah.mk (ay.below uv hb);have mG:=ah.mk (aC lB hb);clear gA;clear dJ;clear dF;clear gy;clear HB;have gA:=bL;have dJ:=bS;have dF:=cG;have gy:=dA;have HB:=mG;clear bL bS cG dA mG;(try clear hb);(try clear hb2);(try clear hk);(try clear hi);have Rn:Fa.cell? ⟨fE,0,none⟩=some (.bool t215):=(af dF.out 0).trans rfl;have Ro:Fa.cell? ⟨fE,1,none⟩=some (.slice pN t216.length pO):=(af dF.out 1).trans rfl;have XV:Fa.cell? ⟨fE,2,none⟩=some (.string t219):=(af dF.out 2).trans rfl;have XW:Fa.cell? ⟨fE,3,none⟩=some (.string t220):=(af dF.out 3).trans rfl;have XX:Fa.cell? ⟨fE,4,none⟩=some (.bool t221):=(af dF.out 4).trans rfl;have Rp:=aa dF.out 0;have Rq:=aa dF.out 1;have XY:=aa dF.out 2;have XZ:=aa dF.out 3;have X0:=aa dF.out 4;have ac8:=qd.out;have ac9:=kM.out;have AO:Fa.cell? ⟨dP,0,none⟩=some (.bool false):=(af dJ.out 0).trans rfl;have AP:Fa.cell? ⟨dP,1,none⟩=some (.slice none 0 0):=(af dJ.out 1).trans rfl;have AQ:Fa.cell? ⟨dP,2,none⟩=some (.string (⟨#[]⟩:ByteArray)):=(af dJ.out 2).trans rfl;have Rc:Fa.cell? ⟨dP,3,none⟩=some (.string (⟨#[]⟩:ByteArray)):=(af dJ.out 3).trans rfl;have Re:Fa.cell? ⟨dP,4,none⟩=some (.bool false):=(af dJ.out 4).trans rfl;have AR:=aa dJ.out 0;have AU:=aa dJ.out 1;have AV:=aa dJ.out 2;have Rf:=aa dJ.out 3;have Rg:=aa dJ.out 4))
       refine bodyPost_ret (oJ rfl _ _ dP 32 #[.bool false,.slice none 0 0,.string (⟨#[]⟩:ByteArray),.string (⟨#[]⟩:ByteArray),.bool false] (0,0) _ rfl Hw Tryz.underlying32 rfl av) rfl ?_
       exact ⟨_,cO,BL,lB⟩
      ·rw [if_neg c28] at H
       have GQ:decide (20 < (t216.length:Int))=false:=decide_eq_false c28
       have adI:decide (20 < t216.length)=false:=decide_eq_false aq
       clear c28
       replace H:=Option.bind_eq_some_iff.mp H
       obtain ⟨t230,Vn,H⟩:=H
       replace H:(if t230=true then (some (false,([]:List ByteArray),(⟨#[]⟩:ByteArray),(⟨#[]⟩:ByteArray),false,0,3)) else (some (t215,t216,t219,t220,t221,nD,0)))=some (r1,r2,r3,r4,r5,r6,r7):=H
       have A36:=ah.mk Vn
       clear Vn
       by_cases c37:t230=true
       ·subst c37
        have H1:(some (false,([]:List ByteArray),(⟨#[]⟩:ByteArray),(⟨#[]⟩:ByteArray),false,0,3))=some (r1,r2,r3,r4,r5,r6,r7):=by rw [if_pos rfl] at H;exact H
        clear H
        have H:=H1
        clear H1
        simp only [Option.some.injEq,Prod.mk.injEq] at H
        obtain ⟨rfl,rfl,rfl,rfl,rfl,rfl,rfl⟩:=H
        have aj7:=eG.out
        have aj8:=ji.out
        have adJ:=rH.out
        have adK:=oH.out
        have JO:wc.cell? ⟨fE,0,none⟩=some (.bool t215):=(af dF.out 0).trans rfl
        have JP:wc.cell? ⟨fE,1,none⟩=some (.slice pN t216.length pO):=(af dF.out 1).trans rfl
        have JQ:wc.cell? ⟨fE,2,none⟩=some (.string t219):=(af dF.out 2).trans rfl
        have JR:wc.cell? ⟨fE,3,none⟩=some (.string t220):=(af dF.out 3).trans rfl
        have JS:wc.cell? ⟨fE,4,none⟩=some (.bool t221):=(af dF.out 4).trans rfl
        have JT:=aa dF.out 0
        have JU:=aa dF.out 1
        have JV:=aa dF.out 2
        have JW:=aa dF.out 3
        have JX:=aa dF.out 4
        go_wp2_with (first|((with_reducible refine aU (f:=58) rfl ?_);refine cB (some 38) rfl rfl Tryz.func58 av rfl #[.agg #[.string t219,.string t220,.bool t221]] rfl cX ?_;(with_reducible refine (ey.calls WI t219 t220 t221 true _ ?aW A26.out).mono ?_);(case aW=>exact aQ.below HG.out lB);rintro e OD ⟨rfl,hb⟩;refine ⟨_,rfl,?_⟩;have bL:=ah.mk (Kd.fB BN hb);have bS:=ah.mk (aX (g:=dP) (o:= .cells #[.bool false,.slice none 0 0,.string (⟨#[]⟩:ByteArray),.string (⟨#[]⟩:ByteArray),.bool false] 32 (0,0)) rL hb);have cG:=ah.mk (aX (g:=fE) (o:= .cells #[.bool t215,.slice pN t216.length pO,.string t219,.string t220,.bool t221] 32 (0,0)) zk hb);have dA:=ah.mk (ay.below uv hb);have mG:=ah.mk (aC lB hb);clear gA;clear dJ;clear dF;clear gy;clear HB;have gA:=bL;have dJ:=bS;have dF:=cG;have gy:=dA;have HB:=mG;clear bL bS cG dA mG;(try clear hb);(try clear hb2);(try clear hk);(try clear hi);have X3:OD.cell? ⟨fE,0,none⟩=some (.bool t215):=(af dF.out 0).trans rfl;have X4:OD.cell? ⟨fE,1,none⟩=some (.slice pN t216.length pO):=(af dF.out 1).trans rfl;have X5:OD.cell? ⟨fE,2,none⟩=some (.string t219):=(af dF.out 2).trans rfl;have X6:OD.cell? ⟨fE,3,none⟩=some (.string t220):=(af dF.out 3).trans rfl;have X7:OD.cell? ⟨fE,4,none⟩=some (.bool t221):=(af dF.out 4).trans rfl;have X8:=aa dF.out 0;have X9:=aa dF.out 1;have Ya:=aa dF.out 2;have Yb:=aa dF.out 3;have Yc:=aa dF.out 4)|(go_at_call 59;(with_reducible refine (bu.calls WI _ _ t216 true _ ?aW ?bY ?eO A36.out).mono ?_);(case aW=>repeat (first|exact (Kd.iy gA.out).2.2|(with_reducible refine Kd.dZ ?_ _)|(with_reducible refine Kd.eo ?_ _)|(with_reducible refine Kd.eZ ?_)));(case bY=>exact (Kd.iy gA.out).2.1);(case eO=>exact aQ.below HG.out lB);rintro e RH ⟨rfl,hb⟩;have bL:=ah.mk (Kd.fB BN hb);have bS:=ah.mk (aX (g:=dP) (o:= .cells #[.bool false,.slice none 0 0,.string (⟨#[]⟩:ByteArray),.string (⟨#[]⟩:ByteArray),.bool false] 32 (0,0)) rL hb);have cG:=ah.mk (aX (g:=fE) (o:= .cells #[.bool t215,.slice pN t216.length pO,.string t219,.string t220,.bool t221] 32 (0,0)) zk hb);have dA:=ah.mk (ay.below uv hb);have mG:=ah.mk (aC lB hb);clear gA;clear dJ;clear dF;clear gy;clear HB;have gA:=bL;have dJ:=bS;have dF:=cG;have gy:=dA;have HB:=mG;clear bL bS cG dA mG;(try clear hb);(try clear hb2);(try clear hk);(try clear hi);have aj9:=qd.out;have aka:=kM.out;have Yd:RH.cell? ⟨dP,0,none⟩=some (.bool false):=(af dJ.out 0).trans rfl;have Ye:RH.cell? ⟨dP,1,none⟩=some (.slice none 0 0):=(af dJ.out 1).trans rfl;have Yf:RH.cell? ⟨dP,2,none⟩=some (.string (⟨#[]⟩:ByteArray)):=(af dJ.out 2).trans rfl;have afb:RH.cell? ⟨dP,3,none⟩=some (.string (⟨#[]⟩:ByteArray)):=(af dJ.out 3).trans rfl;have afc:RH.cell? ⟨dP,4,none⟩=some (.bool false):=(af dJ.out 4).trans rfl;have Yg:=aa dJ.out 0;have Yh:=aa dJ.out 1;have Yi:=aa dJ.out 2;have afd:=aa dJ.out 3;have afe:=aa dJ.out 4))
        refine bodyPost_ret (oJ rfl _ _ dP 32 #[.bool false,.slice none 0 0,.string (⟨#[]⟩:ByteArray),.string (⟨#[]⟩:ByteArray),.bool false] (0,0) _ rfl Hw Tryz.underlying32 rfl av) rfl ?_
        exact ⟨_,cO,BL,lB⟩
       ·replace c37:=Bool.eq_false_iff.mpr c37
        subst c37
        have H1:(some (t215,t216,t219,t220,t221,nD,0))=some (r1,r2,r3,r4,r5,r6,r7):=by rw [if_neg (show ¬ (false=true) by decide)] at H;exact H
        clear H
        have H:=H1
        clear H1
        simp only [Option.some.injEq,Prod.mk.injEq] at H
        obtain ⟨rfl,rfl,rfl,rfl,rfl,rfl,rfl⟩:=H
        have akb:=eG.out
        have akc:=ji.out
        have akd:=rH.out
        have ake:=oH.out
        have Yj:wc.cell? ⟨fE,0,none⟩=some (.bool t215):=(af dF.out 0).trans rfl
        have Yk:wc.cell? ⟨fE,1,none⟩=some (.slice pN t216.length pO):=(af dF.out 1).trans rfl
        have Yl:wc.cell? ⟨fE,2,none⟩=some (.string t219):=(af dF.out 2).trans rfl
        have aff:wc.cell? ⟨fE,3,none⟩=some (.string t220):=(af dF.out 3).trans rfl
        have afg:wc.cell? ⟨fE,4,none⟩=some (.bool t221):=(af dF.out 4).trans rfl
        have Ym:=aa dF.out 0
        have Yn:=aa dF.out 1
        have Yo:=aa dF.out 2
        have afh:=aa dF.out 3
        have afi:=aa dF.out 4
        try go_wp2_with (first|((with_reducible refine aU (f:=58) rfl ?_);refine cB (some 38) rfl rfl Tryz.func58 av rfl #[.agg #[.string t219,.string t220,.bool t221]] rfl cX ?_;(with_reducible refine (ey.calls WI t219 t220 t221 true _ ?aW A26.out).mono ?_);(case aW=>exact aQ.below HG.out lB);rintro e w49 ⟨rfl,hb⟩;refine ⟨_,rfl,?_⟩;have bL:=ah.mk (Kd.fB BN hb);have bS:=ah.mk (aX (g:=dP) (o:= .cells #[.bool false,.slice none 0 0,.string (⟨#[]⟩:ByteArray),.string (⟨#[]⟩:ByteArray),.bool false] 32 (0,0)) rL hb);have cG:=ah.mk (aX (g:=fE) (o:= .cells #[.bool t215,.slice pN t216.length pO,.string t219,.string t220,.bool t221] 32 (0,0)) zk hb);have dA:=ah.mk (ay.below uv hb);have mG:=ah.mk (aC lB hb);clear gA;clear dJ;clear dF;clear gy;clear HB;have gA:=bL;have dJ:=bS;have dF:=cG;have gy:=dA;have HB:=mG;clear bL bS cG dA mG;(try clear hb);(try clear hb2);(try clear hk);(try clear hi);have Yp:w49.cell? ⟨fE,0,none⟩=some (.bool t215):=(af dF.out 0).trans rfl;have Yq:w49.cell? ⟨fE,1,none⟩=some (.slice pN t216.length pO):=(af dF.out 1).trans rfl;have Yr:w49.cell? ⟨fE,2,none⟩=some (.string t219):=(af dF.out 2).trans rfl;have afj:w49.cell? ⟨fE,3,none⟩=some (.string t220):=(af dF.out 3).trans rfl;have afk:w49.cell? ⟨fE,4,none⟩=some (.bool t221):=(af dF.out 4).trans rfl;have Yt:=aa dF.out 0;have Yu:=aa dF.out 1;have Yv:=aa dF.out 2;have afl:=aa dF.out 3;have afm:=aa dF.out 4)|(go_at_call 59;(with_reducible refine (bu.calls WI _ _ t216 false _ ?aW ?bY ?eO A36.out).mono ?_);(case aW=>repeat (first|exact (Kd.iy gA.out).2.2|(with_reducible refine Kd.dZ ?_ _)|(with_reducible refine Kd.eo ?_ _)|(with_reducible refine Kd.eZ ?_)));(case bY=>exact (Kd.iy gA.out).2.1);(case eO=>exact aQ.below HG.out lB);rintro e w51 ⟨rfl,hb⟩;have bL:=ah.mk (Kd.fB BN hb);have bS:=ah.mk (aX (g:=dP) (o:= .cells #[.bool false,.slice none 0 0,.string (⟨#[]⟩:ByteArray),.string (⟨#[]⟩:ByteArray),.bool false] 32 (0,0)) rL hb);have cG:=ah.mk (aX (g:=fE) (o:= .cells #[.bool t215,.slice pN t216.length pO,.string t219,.string t220,.bool t221] 32 (0,0)) zk hb);have dA:=ah.mk (ay.below uv hb);have mG:=ah.mk (aC lB hb);clear gA;clear dJ;clear dF;clear gy;clear HB;have gA:=bL;have dJ:=bS;have dF:=cG;have gy:=dA;have HB:=mG;clear bL bS cG dA mG;(try clear hb);(try clear hb2);(try clear hk);(try clear hi)))
        have bL:=ah.mk (Kd.jT gA.out)
        have bS:=ah.mk (bN dJ.out)
        have cG:=ah.mk (bN dF.out)
        have dA:=ah.mk (ay.drew gy.out)
        have mG:=ah.mk (bn HB.out)
        clear gA
        clear dJ
        clear dF
        clear gy
        clear HB
        have gA:=bL
        have dJ:=bS
        have dF:=cG
        have gy:=dA
        have HB:=mG
        clear bL bS cG dA mG
        refine BP (n:=8) (S:=fun w'=>w'.cell? ⟨fE,0,none⟩=some (.bool t215)∧w'.cell? ⟨fE,1,none⟩=some (.slice pN t216.length pO)∧w'.cell? ⟨fE,2,none⟩=some (.string t219)∧w'.cell? ⟨fE,3,none⟩=some (.string t220)∧w'.cell? ⟨fE,4,none⟩=some (.bool t221)∧w'.cell? ⟨pT,0,none⟩=some (.string yL)∧w'.cell? ⟨pT,1,none⟩=some (.int .i64 nD)) (ds:=[]) #[false,false,false,false,false,false,false,false] av (by rfl) (by rfl) ⟨(af dF.out 0).trans rfl,(af dF.out 1).trans rfl,(af dF.out 2).trans rfl,(af dF.out 3).trans rfl,(af dF.out 4).trans rfl,dI gy.out.1,dB gy.out.1⟩ (fun hHeld=>?_);refine ue bT.adC bT.aaW (fun lQ Oa=>?_)
        generalize w51.drew=w52 at gA dJ dF gy HB hHeld ⊢
        refine eH (i:=1) (N:=some 53) (v:=?_) (a':=?_) #[false,true,false,false,false,false,false,false] rfl rfl (fG lQ.out av) (fun _ _ _ h=>h) (Or.inl ⟨by rfl,?_⟩) ?_ ?_
        rotate_left
        ·intro w'
         go_simp
         with_reducible rfl
        rotate_left
        ·simp only [Act.put,List.setIfInBounds_toArray,List.set_cons_zero,List.set_cons_succ,cR,cW]
         rfl
        refine eH (i:=2) (N:=some 54) (v:=?_) (a':=?_) #[false,true,true,false,false,false,false,false] rfl rfl (fG lQ.out av) (fun _ _ _ h=>h) (Or.inl ⟨by rfl,?_⟩) ?_ ?_
        rotate_left
        ·intro w'
         go_simp
         with_reducible rfl
        rotate_left
        ·simp only [Act.put,List.setIfInBounds_toArray,List.set_cons_zero,List.set_cons_succ,cR,cW]
         rfl
        refine eH (i:=3) (N:=some 55) (v:=?_) (a':=?_) #[false,true,true,true,false,false,false,false] rfl rfl (fG lQ.out av) (fun _ _ _ h=>h) (Or.inl ⟨by rfl,?_⟩) ?_ ?_
        rotate_left
        ·intro w'
         go_simp
         with_reducible rfl
        rotate_left
        ·simp only [Act.put,List.setIfInBounds_toArray,List.set_cons_zero,List.set_cons_succ,cR,cW]
         rfl
        refine mV (i:=0) (N:=some 52) (v:=?_) (a':=?_) #[true,true,true,true,false,false,false,false] rfl rfl (mW lQ.out Oa.out av) (fun _ _ _ h=>h) (Or.inl ⟨by rfl,?_⟩) hHeld ?_ ?_
        rotate_left
        ·rintro w' ⟨s0,s1,s2,s3,s4,s5,s6⟩
         go_simp
         with_reducible rfl
        rotate_left
        ·simp only [Act.put,List.setIfInBounds_toArray,List.set_cons_zero,List.set_cons_succ,cR,cW]
         rfl
        refine mV (i:=4) (N:=some 56) (v:=?_) (a':=?_) #[true,true,true,true,true,false,false,false] rfl rfl (mW lQ.out Oa.out av) (fun _ _ _ h=>h) (Or.inl ⟨by rfl,?_⟩) hHeld ?_ ?_
        rotate_left
        ·rintro w' ⟨s0,s1,s2,s3,s4,s5,s6⟩
         go_simp
         with_reducible rfl
        rotate_left
        ·simp only [Act.put,List.setIfInBounds_toArray,List.set_cons_zero,List.set_cons_succ,cR,cW]
         rfl
        refine Ix (i:=5) (N:=none) #[true,true,true,true,true,true,false,false] rfl rfl (wH lQ.out av) bG (fun K hK=>?_)
        have al1:w52.cell? ⟨dP,0,none⟩=some (.bool false):=(af dJ.out 0).trans rfl
        have akf:=aa dJ.out 0
        have afn:=eG.out
        have afo:=ji.out
        have al2:w52.cell? ⟨dP,1,none⟩=some (.slice none 0 0):=(af dJ.out 1).trans rfl
        have akg:=aa dJ.out 1
        have afp:=eG.out
        have afq:=ji.out
        have al3:w52.cell? ⟨dP,2,none⟩=some (.string (⟨#[]⟩:ByteArray)):=(af dJ.out 2).trans rfl
        have akh:=aa dJ.out 2
        have afr:=eG.out
        have afs:=ji.out
        have al4:w52.cell? ⟨dP,3,none⟩=some (.string (⟨#[]⟩:ByteArray)):=(af dJ.out 3).trans rfl
        have aki:=aa dJ.out 3
        have aft:=eG.out
        have afu:=ji.out
        have al5:w52.cell? ⟨dP,4,none⟩=some (.bool false):=(af dJ.out 4).trans rfl
        have akj:=aa dJ.out 4
        have afv:=eG.out
        have afw:=ji.out
        refine acO (w1:=?_) (by rfl) rfl ?_ ?_
        rotate_left
        ·go_simp
         rfl
        refine hK.out _ _ ⟨((cell_far (p:=⟨dP,_,none⟩) eG.out _).trans (((cell_far (p:=⟨dP,_,none⟩) eG.out _).trans (((cell_far (p:=⟨dP,_,none⟩) eG.out _).trans (((cell_far (p:=⟨dP,_,none⟩) eG.out _).trans (((cell_far (p:=⟨dP,_,none⟩) eG.out _).trans (hHeld.1)))))))))),((cell_far (p:=⟨dP,_,none⟩) eG.out _).trans (((cell_far (p:=⟨dP,_,none⟩) eG.out _).trans (((cell_far (p:=⟨dP,_,none⟩) eG.out _).trans (((cell_far (p:=⟨dP,_,none⟩) eG.out _).trans (((cell_far (p:=⟨dP,_,none⟩) eG.out _).trans (hHeld.2.1)))))))))),((cell_far (p:=⟨dP,_,none⟩) eG.out _).trans (((cell_far (p:=⟨dP,_,none⟩) eG.out _).trans (((cell_far (p:=⟨dP,_,none⟩) eG.out _).trans (((cell_far (p:=⟨dP,_,none⟩) eG.out _).trans (((cell_far (p:=⟨dP,_,none⟩) eG.out _).trans (hHeld.2.2.1)))))))))),((cell_far (p:=⟨dP,_,none⟩) eG.out _).trans (((cell_far (p:=⟨dP,_,none⟩) eG.out _).trans (((cell_far (p:=⟨dP,_,none⟩) eG.out _).trans (((cell_far (p:=⟨dP,_,none⟩) eG.out _).trans (((cell_far (p:=⟨dP,_,none⟩) eG.out _).trans (hHeld.2.2.2.1)))))))))),((cell_far (p:=⟨dP,_,none⟩) eG.out _).trans (((cell_far (p:=⟨dP,_,none⟩) eG.out _).trans (((cell_far (p:=⟨dP,_,none⟩) eG.out _).trans (((cell_far (p:=⟨dP,_,none⟩) eG.out _).trans (((cell_far (p:=⟨dP,_,none⟩) eG.out _).trans (hHeld.2.2.2.2.1)))))))))),((cell_far (p:=⟨dP,_,none⟩) tL _).trans (((cell_far (p:=⟨dP,_,none⟩) tL _).trans (((cell_far (p:=⟨dP,_,none⟩) tL _).trans (((cell_far (p:=⟨dP,_,none⟩) tL _).trans (((cell_far (p:=⟨dP,_,none⟩) tL _).trans (hHeld.2.2.2.2.2.1)))))))))),((cell_far (p:=⟨dP,_,none⟩) tL _).trans (((cell_far (p:=⟨dP,_,none⟩) tL _).trans (((cell_far (p:=⟨dP,_,none⟩) tL _).trans (((cell_far (p:=⟨dP,_,none⟩) tL _).trans (((cell_far (p:=⟨dP,_,none⟩) tL _).trans (hHeld.2.2.2.2.2.2))))))))))⟩ (fun hHeld=>?_)
        clear hK K
        refine eH (i:=6) (N:=some 3) (v:=?_) (a':=?_) #[true,true,true,true,true,true,true,false] rfl rfl (fG lQ.out av) (fun _ _ _ h=>h) (Or.inl ⟨by rfl,?_⟩) ?_ ?_
        rotate_left
        ·intro w'
         go_simp
         with_reducible rfl
        rotate_left
        ·simp only [Act.put,List.setIfInBounds_toArray,List.set_cons_zero,List.set_cons_succ,cR,cW]
         rfl
        refine eH (i:=7) (N:=some 4) (v:=?_) (a':=?_) #[true,true,true,true,true,true,true,true] rfl rfl (fG lQ.out av) (fun _ _ _ h=>h) (Or.inl ⟨by rfl,?_⟩) ?_ ?_
        rotate_left
        ·intro w'
         go_simp
         with_reducible rfl
        rotate_left
        ·simp only [Act.put,List.setIfInBounds_toArray,List.set_cons_zero,List.set_cons_succ,cR,cW]
         rfl
        refine GD (zX lQ.out av) ?_
        try go_wp2
        refine bodyPost_ret (oJ rfl _ _ dP 32 #[.bool t215,.slice pN t216.length pO,.string t219,.string t220,.bool t221] (0,0) _ rfl (by (with_reducible repeat (first|refine bF ?_ _|refine bN ?_|refine bB ?_ _));refine cZ (cs:=#[.bool t215,.slice pN t216.length pO,.string t219,.string t220,.bool false]) ?_ 4 _ rfl;(with_reducible repeat (first|refine bF ?_ _|refine bN ?_|refine bB ?_ _));refine cZ (cs:=#[.bool t215,.slice pN t216.length pO,.string t219,.string (⟨#[]⟩:ByteArray),.bool false]) ?_ 3 _ rfl;(with_reducible repeat (first|refine bF ?_ _|refine bN ?_|refine bB ?_ _));refine cZ (cs:=#[.bool t215,.slice pN t216.length pO,.string (⟨#[]⟩:ByteArray),.string (⟨#[]⟩:ByteArray),.bool false]) ?_ 2 _ rfl;(with_reducible repeat (first|refine bF ?_ _|refine bN ?_|refine bB ?_ _));refine cZ (cs:=#[.bool t215,.slice none 0 0,.string (⟨#[]⟩:ByteArray),.string (⟨#[]⟩:ByteArray),.bool false]) ?_ 1 _ rfl;(with_reducible repeat (first|refine bF ?_ _|refine bN ?_|refine bB ?_ _));refine cZ (cs:=#[.bool false,.slice none 0 0,.string (⟨#[]⟩:ByteArray),.string (⟨#[]⟩:ByteArray),.bool false]) ?_ 0 _ rfl;(with_reducible repeat (first|refine bF ?_ _|refine bN ?_|refine bB ?_ _));exact dJ.out) Tryz.underlying32 rfl av) rfl ?_
        exact ⟨_,cO,by (with_reducible repeat (first|apply Kd.iD|apply Kd.iL|apply Kd.jT));exact Kd.gL (Kd.eu (p:=⟨dP,4,none⟩) (Kd.eu (p:=⟨dP,3,none⟩) (Kd.eu (p:=⟨dP,2,none⟩) (Kd.eu (p:=⟨dP,1,none⟩) (Kd.eu (p:=⟨dP,0,none⟩) (Kd.nk gA.out dJ.out bG) (fun _ hk=>hk.2) (.bool t215)) (fun _ hk=>hk.2) (.slice pN t216.length pO)) (fun _ hk=>hk.2) (.string t219)) (fun _ hk=>hk.2) (.string t220)) (fun _ hk=>hk.2) (.bool t221)) (fun _ hk=>trivial),lB⟩
     ·replace F9:=Bool.eq_false_iff.mpr F9
      subst F9
      have H1:(some (false,([]:List ByteArray),(⟨#[]⟩:ByteArray),(⟨#[]⟩:ByteArray),false,0,3))=some (r1,r2,r3,r4,r5,r6,r7):=by rw [if_neg (show ¬ (false=true) by decide)] at H;exact H
      clear H
      have H:=H1
      clear H1
      simp only [Option.some.injEq,Prod.mk.injEq] at H
      obtain ⟨rfl,rfl,rfl,rfl,rfl,rfl,rfl⟩:=H
      have akk:=eG.out
      have akl:=ji.out
      have akm:=rH.out
      have akn:=oH.out
      have afx:wc.cell? ⟨fE,0,none⟩=some (.bool t215):=(af dF.out 0).trans rfl
      have afy:wc.cell? ⟨fE,1,none⟩=some (.slice pN t216.length pO):=(af dF.out 1).trans rfl
      have afz:wc.cell? ⟨fE,2,none⟩=some (.string t219):=(af dF.out 2).trans rfl
      have afA:wc.cell? ⟨fE,3,none⟩=some (.string t220):=(af dF.out 3).trans rfl
      have afB:wc.cell? ⟨fE,4,none⟩=some (.bool t221):=(af dF.out 4).trans rfl
      have afC:=aa dF.out 0
      have afD:=aa dF.out 1
      have afE:=aa dF.out 2
      have afF:=aa dF.out 3
      have afG:=aa dF.out 4
      go_wp2_with (first|((with_reducible refine aU (f:=58) rfl ?_);refine cB (some 38) rfl rfl Tryz.func58 av rfl #[.agg #[.string t219,.string t220,.bool t221]] rfl cX ?_;(with_reducible refine (ey.calls WI t219 t220 t221 false _ ?aW A26.out).mono ?_);(case aW=>exact aQ.below HG.out lB);rintro e w61 ⟨rfl,hb⟩;refine ⟨_,rfl,?_⟩;have bL:=ah.mk (Kd.fB BN hb);have bS:=ah.mk (aX (g:=dP) (o:= .cells #[.bool false,.slice none 0 0,.string (⟨#[]⟩:ByteArray),.string (⟨#[]⟩:ByteArray),.bool false] 32 (0,0)) rL hb);have cG:=ah.mk (aX (g:=fE) (o:= .cells #[.bool t215,.slice pN t216.length pO,.string t219,.string t220,.bool t221] 32 (0,0)) zk hb);have dA:=ah.mk (ay.below uv hb);have mG:=ah.mk (aC lB hb);clear gA;clear dJ;clear dF;clear gy;clear HB;have gA:=bL;have dJ:=bS;have dF:=cG;have gy:=dA;have HB:=mG;clear bL bS cG dA mG;(try clear hb);(try clear hb2);(try clear hk);(try clear hi);have ako:=qd.out;have akp:=kM.out;have afH:w61.cell? ⟨dP,0,none⟩=some (.bool false):=(af dJ.out 0).trans rfl;have afI:w61.cell? ⟨dP,1,none⟩=some (.slice none 0 0):=(af dJ.out 1).trans rfl;have afJ:w61.cell? ⟨dP,2,none⟩=some (.string (⟨#[]⟩:ByteArray)):=(af dJ.out 2).trans rfl;have afK:w61.cell? ⟨dP,3,none⟩=some (.string (⟨#[]⟩:ByteArray)):=(af dJ.out 3).trans rfl;have afL:w61.cell? ⟨dP,4,none⟩=some (.bool false):=(af dJ.out 4).trans rfl;have afM:=aa dJ.out 0;have afN:=aa dJ.out 1;have afO:=aa dJ.out 2;have afP:=aa dJ.out 3;have afQ:=aa dJ.out 4))
      refine bodyPost_ret (oJ rfl _ _ dP 32 #[.bool false,.slice none 0 0,.string (⟨#[]⟩:ByteArray),.string (⟨#[]⟩:ByteArray),.bool false] (0,0) _ rfl Hw Tryz.underlying32 rfl av) rfl ?_
      exact ⟨_,cO,BL,lB⟩
end Go.Proofs.YtokpnfljjjjikaaGreatDoor.nK
