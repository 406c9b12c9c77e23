import Derived.Test.YtokpnfljjjjikaaGreatDoorZo
import Derived.Test.YtokpnfljjjjikaaGreatDoorQCbx0
import Derived.Test.YtokpnfljjjjikaaGreatDoorQCbx2
import Derived.Test.YtokpnfljjjjikaaGreatDoorQCbx11
namespace Go.Proofs.YtokpnfljjjjikaaGreatDoor.nX
open Go.RowKit Go.Proofs.aj.bW Go.Proofs.aj.fW Go.Proofs.aj.dz
attribute [local go_sem] jg jh kO kP iK iL ji jk
set_option linter.unusedVariables false
set_option linter.unusedSimpArgs false
attribute [local go_sem high] ad6
mutual
def aZ.j0:Nat→Bool→Int→ByteArray→Bool→List ByteArray→ByteArray→ByteArray→Bool→List (gP)→Int→ByteArray→Bool→List ByteArray→ByteArray→ByteArray→Bool→List (gP)→Option (Bool)
 | 0,_,_,_,_,_,_,_,_,_,_,_,_,_,_,_,_,_ =>none
 |k + 1,x34,I2,I3,I4,I5,I6,I7,I8,sW,I9,Ja,Jb,Jc,Jd,Je,Jf,u5=>if x34=true then (some false) else (aZ.l0 k (sW.length:Int) 0 I2 I3 I4 I5 I6 I7 I8 sW I9 Ja Jb Jc Jd Je Jf u5)
def aZ.l0:Nat→Int→Int→Int→ByteArray→Bool→List ByteArray→ByteArray→ByteArray→Bool→List (gP)→Int→ByteArray→Bool→List ByteArray→ByteArray→ByteArray→Bool→List (gP)→Option (Bool)
 | 0,_,_,_,_,_,_,_,_,_,_,_,_,_,_,_,_,_,_ =>none
 |k + 1,x37,UZ,I2,I3,I4,I5,I6,I7,I8,sW,I9,Ja,Jb,Jc,Jd,Je,Jf,u5=>if UZ < x37 then (if 0≤UZ then (if UZ < (sW.length:Int) then (if UZ < (u5.length:Int) then (if (!((((dN sW UZ).f0).toList) == (((dN u5 UZ).f0).toList)) || (!((((dN sW UZ).f1).toList) == (((dN u5 UZ).f1).toList)) || (!(((dN sW UZ).f2) == ((dN u5 UZ).f2)))))=true then (some false) else (aZ.l0 k x37 (wrap64 (UZ + 1)) I2 I3 I4 I5 I6 I7 I8 sW I9 Ja Jb Jc Jd Je Jf u5)) else (none)) else (none)) else (none)) else (some true)
end
def aZ.f (k:Nat) (aK:Int) (bf:ByteArray) (bg:Bool) (bQ:List ByteArray) (bw:ByteArray) (bT:ByteArray) (bU:Bool) (bG:List (gP)) (fX:Int) (jf:ByteArray) (gq:Bool) (iP:List ByteArray) (gu:ByteArray) (jc:ByteArray) (jd:Bool) (gS:List (gP)):Option (Bool):=if aK=fX then (if bf.toList=jf.toList then ((bH.f k bg bQ bw bT bU gq iP gu jc jd).bind fun t253=>(if t253=true then (aZ.j0 k ((bG.length:Int) != (gS.length:Int)) aK bf bg bQ bw bT bU bG fX jf gq iP gu jc jd gS) else (aZ.j0 k true aK bf bg bQ bw bT bU bG fX jf gq iP gu jc jd gS))) else (aZ.j0 k true aK bf bg bQ bw bT bU bG fX jf gq iP gu jc jd gS)) else (aZ.j0 k true aK bf bg bQ bw bT bU bG fX jf gq iP gu jc jd gS)
theorem aZ.fR:∀ k,(∀ y0 y1 y2 y3 y4 y5 y6 y7 y8 y9 Oh UW y12 y13 y14 y15 y16,cR (aZ.j0 k y0 y1 y2 y3 y4 y5 y6 y7 y8 y9 Oh UW y12 y13 y14 y15 y16) (aZ.j0 (k + 1) y0 y1 y2 y3 y4 y5 y6 y7 y8 y9 Oh UW y12 y13 y14 y15 y16))∧(∀ y0 y1 y2 y3 y4 y5 y6 y7 y8 y9 Oh UW y12 y13 y14 y15 y16 y17,cR (aZ.l0 k y0 y1 y2 y3 y4 y5 y6 y7 y8 y9 Oh UW y12 y13 y14 y15 y16 y17) (aZ.l0 (k + 1) y0 y1 y2 y3 y4 y5 y6 y7 y8 y9 Oh UW y12 y13 y14 y15 y16 y17))
 | 0=>⟨fun _ _ _ _ _ _ _ _ _ _ _ _ _ _ _ _ _ r h=>by simp [aZ.j0] at h,fun _ _ _ _ _ _ _ _ _ _ _ _ _ _ _ _ _ _ r h=>by simp [aZ.l0] at h⟩
 |k + 1=>by
  obtain ⟨nY,ih1⟩:=aZ.fR k
  refine ⟨?_,?_⟩
  ·intro y0 y1 y2 y3 y4 y5 y6 y7 y8 y9 Oh UW y12 y13 y14 y15 y16
   unfold aZ.j0
   repeat' first
   |(with_reducible exact nY _ _ _ _ _ _ _ _ _ _ _ _ _ _ _ _ _)
   |(with_reducible exact ih1 _ _ _ _ _ _ _ _ _ _ _ _ _ _ _ _ _ _)
   |(with_reducible exact bH.mono _ _ _ _ _ _ _ _ _ _ _)
   |(with_reducible exact cR.refl _)
   |(with_reducible exact cR.none _)
   |(with_reducible refine cR.ite ?_ ?_)
   |(with_reducible refine cR.bind ?_ (fun _ =>?_))
   |refine cR.ite ?_ ?_
   |refine cR.bind ?_ (fun _ =>?_)
  ·intro y0 y1 y2 y3 y4 y5 y6 y7 y8 y9 Oh UW y12 y13 y14 y15 y16 y17
   unfold aZ.l0
   repeat' first
   |(with_reducible exact nY _ _ _ _ _ _ _ _ _ _ _ _ _ _ _ _ _)
   |(with_reducible exact ih1 _ _ _ _ _ _ _ _ _ _ _ _ _ _ _ _ _ _)
   |(with_reducible exact bH.mono _ _ _ _ _ _ _ _ _ _ _)
   |(with_reducible exact cR.refl _)
   |(with_reducible exact cR.none _)
   |(with_reducible refine cR.ite ?_ ?_)
   |(with_reducible refine cR.bind ?_ (fun _ =>?_))
   |refine cR.ite ?_ ?_
   |refine cR.bind ?_ (fun _ =>?_)
theorem aZ.mono:∀ a0 a1 a2 a3 a4 a5 a6 a7 a8 a9 a10 a11 a12 a13 a14 a15 k,cR (aZ.f k a0 a1 a2 a3 a4 a5 a6 a7 a8 a9 a10 a11 a12 a13 a14 a15) (aZ.f (k + 1) a0 a1 a2 a3 a4 a5 a6 a7 a8 a9 a10 a11 a12 a13 a14 a15):=by
 intro a0 a1 a2 a3 a4 a5 a6 a7 a8 a9 a10 a11 a12 a13 a14 a15 k
 obtain ⟨nY,ih1⟩:=aZ.fR k
 unfold aZ.f
 repeat' first
  |(with_reducible exact nY _ _ _ _ _ _ _ _ _ _ _ _ _ _ _ _ _)
  |(with_reducible exact ih1 _ _ _ _ _ _ _ _ _ _ _ _ _ _ _ _ _ _)
  |(with_reducible exact bH.mono _ _ _ _ _ _ _ _ _ _ _)
  |(with_reducible exact cR.refl _)
  |(with_reducible exact cR.none _)
  |(with_reducible refine cR.ite ?_ ?_)
  |(with_reducible refine cR.bind ?_ (fun _ =>?_))
  |refine cR.ite ?_ ?_
  |refine cR.bind ?_ (fun _ =>?_)
set_option maxHeartbeats 8000000 in
set_option maxRecDepth 100000 in
theorem aZ.calls (k:Nat) (aK:Int) (bf:ByteArray) (bg:Bool) (cO:Option Addr) (cP:Nat) (bQ:List ByteArray) (bw:ByteArray) (bT:ByteArray) (bU:Bool) (cS:Option Addr) (cQ:Nat) (bG:List (gP)) (fX:Int) (jf:ByteArray) (gq:Bool) (oo:Option Addr) (oq:Nat) (iP:List ByteArray) (gu:ByteArray) (jc:ByteArray) (jd:Bool) (ot:Option Addr) (ou:Nat) (gS:List (gP)) (r:Bool) (w:World) (qJ:Kd.C Kd.string w cO bQ.length bQ) (qK:bQ.length≤cP) (qM:Kd.C zF w cS bG.length bG) (qN:bG.length≤cQ) (LK:Kd.C Kd.string w oo iP.length iP) (LL:iP.length≤oq) (LM:Kd.C zF w ot gS.length gS) (LN:gS.length≤ou) (h:aZ.f k aK bf bg bQ bw bT bU bG fX jf gq iP gu jc jd gS=some r):
 Calls Tryz.prog 36 #[.agg #[.int .u8 aK,.string bf,.bool bg,.slice cO bQ.length cP,.string bw,.string bT,.bool bU,.slice cS bG.length cQ],.agg #[.int .u8 fX,.string jf,.bool gq,.slice oo iP.length oq,.string gu,.string jc,.bool jd,.slice ot gS.length ou]] w fun e w'=>e= .returned (.bool r)∧Below w.heap.size w w':=by
 have LP:=Tryz.underlying35
 have Oi:=Tryz.underlying32
 have U0:=Tryz.underlying58
 have iF:=ah.mk qJ
 have iG:=ah.mk qK
 clear qJ qK
 have iV:=ah.mk qM
 have jw:=ah.mk qN
 clear qM qN
 have Cw:=ah.mk LK
 have Cx:=ah.mk LL
 clear LK LL
 have QC:=ah.mk LM
 have aaC:=ah.mk LN
 clear LM LN
 have HB:=ah.mk (Below.refl w.heap.size w)
 have H:(if aK=fX then (if bf.toList=jf.toList then ((bH.f k bg bQ bw bT bU gq iP gu jc jd).bind fun t253=>(if t253=true then (aZ.j0 k ((bG.length:Int) != (gS.length:Int)) aK bf bg bQ bw bT bU bG fX jf gq iP gu jc jd gS) else (aZ.j0 k true aK bf bg bQ bw bT bU bG fX jf gq iP gu jc jd gS))) else (aZ.j0 k true aK bf bg bQ bw bT bU bG fX jf gq iP gu jc jd gS)) else (aZ.j0 k true aK bf bg bQ bw bT bU bG fX jf gq iP gu jc jd gS))=some r:=h
 clear h
 have UX:=ah.mk H
 clear H
 go_enter Tryz.func36,Tryz.ntmps36
 go_upto_region 1 with (first|((with_reducible refine cG (N:=2) rfl ?_);(try (refine dg (by rfl) ?_;dsimp only));refine cj ?hg (N:=2) ?hd (cs:=#[.int .u8 aK,.string bf,.bool bg,.slice cO bQ.length cP,.string bw,.string bT,.bool bU,.slice cS bG.length cQ]) (t:=35) ?hr ?_;(case hd=>rfl);(case hg=>rfl);(case hr=>first|(go_simp;done)|(go_simp;rfl));intro dU hg w4 cJ hb;have bD:=ah.mk (ay cw hb);have bN:=ah.mk (cJ);have cz:=ah.mk ((dK:w.heap.size≤dU));have cY:=ah.mk ((dK:w.heap.size≤dU));clear HB;have HB:=bD;have cg:=bN;have aaD:=cz;have Lf:=cY;clear bD bN cz cY;clear hb cJ hg)|((with_reducible refine cG (N:=3) rfl ?_);(try (refine dg (by rfl) ?_;dsimp only));refine cj ?hg (N:=3) ?hd (cs:=#[.int .u8 fX,.string jf,.bool gq,.slice oo iP.length oq,.string gu,.string jc,.bool jd,.slice ot gS.length ou]) (t:=35) ?hr ?_;(case hd=>rfl);(case hg=>rfl);(case hr=>first|(go_simp;done)|(go_simp;rfl));intro eB hg w5 cJ hb;have bD:=ah.mk (aJ (g:=dU) (o:= .cells #[.int .u8 aK,.string bf,.bool bg,.slice cO bQ.length cP,.string bw,.string bT,.bool bU,.slice cS bG.length cQ] 35 (0,0)) oI hb);have bN:=ah.mk (ay NH hb);have cz:=ah.mk (cJ);have cY:=ah.mk ((BC:w.heap.size≤eB));have jv:=ah.mk ((BC:w.heap.size≤eB));have om:=ah.mk ((NN:dU≠eB));have oZ:=ah.mk ((NP:eB≠dU));clear cg;clear HB;have cg:=bD;have HB:=bN;have cF:=cz;have aaE:=cY;have T9:=jv;have nL:=om;have nM:=oZ;clear bD bN cz cY jv om oZ;clear hb cJ hg))
 repeat (go_quiet (first|((with_reducible refine cG (N:=2) rfl ?_);(try (refine dg (by rfl) ?_;dsimp only));refine cj ?hg (N:=2) ?hd (cs:=#[.int .u8 aK,.string bf,.bool bg,.slice cO bQ.length cP,.string bw,.string bT,.bool bU,.slice cS bG.length cQ]) (t:=35) ?hr ?_;(case hd=>rfl);(case hg=>rfl);(case hr=>first|(go_simp;done)|(go_simp;rfl));intro dU hg w4 cJ hb;have bD:=ah.mk (ay cw hb);have bN:=ah.mk (cJ);have cz:=ah.mk ((dK:w.heap.size≤dU));have cY:=ah.mk ((dK:w.heap.size≤dU));clear HB;have HB:=bD;have cg:=bN;have aaD:=cz;have Lf:=cY;clear bD bN cz cY;clear hb cJ hg)|((with_reducible refine cG (N:=3) rfl ?_);(try (refine dg (by rfl) ?_;dsimp only));refine cj ?hg (N:=3) ?hd (cs:=#[.int .u8 fX,.string jf,.bool gq,.slice oo iP.length oq,.string gu,.string jc,.bool jd,.slice ot gS.length ou]) (t:=35) ?hr ?_;(case hd=>rfl);(case hg=>rfl);(case hr=>first|(go_simp;done)|(go_simp;rfl));intro eB hg w5 cJ hb;have bD:=ah.mk (aJ (g:=dU) (o:= .cells #[.int .u8 aK,.string bf,.bool bg,.slice cO bQ.length cP,.string bw,.string bT,.bool bU,.slice cS bG.length cQ] 35 (0,0)) oI hb);have bN:=ah.mk (ay NH hb);have cz:=ah.mk (cJ);have cY:=ah.mk ((BC:w.heap.size≤eB));have jv:=ah.mk ((BC:w.heap.size≤eB));have om:=ah.mk ((NN:dU≠eB));have oZ:=ah.mk ((NP:eB≠dU));clear cg;clear HB;have cg:=bD;have HB:=bN;have cF:=cz;have aaE:=cY;have T9:=jv;have nL:=om;have nM:=oZ;clear bD bN cz cY jv om oZ;clear hb cJ hg));go_upto_region 1 with (first|((with_reducible refine cG (N:=2) rfl ?_);(try (refine dg (by rfl) ?_;dsimp only));refine cj ?hg (N:=2) ?hd (cs:=#[.int .u8 aK,.string bf,.bool bg,.slice cO bQ.length cP,.string bw,.string bT,.bool bU,.slice cS bG.length cQ]) (t:=35) ?hr ?_;(case hd=>rfl);(case hg=>rfl);(case hr=>first|(go_simp;done)|(go_simp;rfl));intro dU hg w4 cJ hb;have bD:=ah.mk (ay cw hb);have bN:=ah.mk (cJ);have cz:=ah.mk ((dK:w.heap.size≤dU));have cY:=ah.mk ((dK:w.heap.size≤dU));clear HB;have HB:=bD;have cg:=bN;have aaD:=cz;have Lf:=cY;clear bD bN cz cY;clear hb cJ hg)|((with_reducible refine cG (N:=3) rfl ?_);(try (refine dg (by rfl) ?_;dsimp only));refine cj ?hg (N:=3) ?hd (cs:=#[.int .u8 fX,.string jf,.bool gq,.slice oo iP.length oq,.string gu,.string jc,.bool jd,.slice ot gS.length ou]) (t:=35) ?hr ?_;(case hd=>rfl);(case hg=>rfl);(case hr=>first|(go_simp;done)|(go_simp;rfl));intro eB hg w5 cJ hb;have bD:=ah.mk (aJ (g:=dU) (o:= .cells #[.int .u8 aK,.string bf,.bool bg,.slice cO bQ.length cP,.string bw,.string bT,.bool bU,.slice cS bG.length cQ] 35 (0,0)) oI hb);have bN:=ah.mk (ay NH hb);have cz:=ah.mk (cJ);have cY:=ah.mk ((BC:w.heap.size≤eB));have jv:=ah.mk ((BC:w.heap.size≤eB));have om:=ah.mk ((NN:dU≠eB));have oZ:=ah.mk ((NP:eB≠dU));clear cg;clear HB;have cg:=bD;have HB:=bN;have cF:=cz;have aaE:=cY;have T9:=jv;have nL:=om;have nM:=oZ;clear bD bN cz cY jv om oZ;clear hb cJ hg)))
 (try simp only [Act.put,List.setIfInBounds_toArray,List.set_cons_zero,List.set_cons_succ])
 go_cut [34] (fun v34 wc=>∃ (kq:Nat) (QD:Bool),v34= .bool QD∧ah (aZ.j0 kq QD aK bf bg bQ bw bT bU bG fX jf gq iP gu jc jd gS=some r)∧ah (kq≤k)∧ah (wc.heap[dU]? =some (.cells #[.int .u8 aK,.string bf,.bool bg,(.slice cO bQ.length cP),.string bw,.string bT,.bool bU,(.slice cS bG.length cQ)] 35 (0,0)))∧ah (wc.heap[eB]? =some (.cells #[.int .u8 fX,.string jf,.bool gq,(.slice oo iP.length oq),.string gu,.string jc,.bool jd,(.slice ot gS.length ou)] 35 (0,0)))∧ah (Below w.heap.size w wc))
 case first=>
  have H:=UX.out
  clear UX
  by_cases c6:aK=fX
  ·rw [if_pos c6] at H
   have pF:(aK == fX)=true:=beq_iff_eq.mpr c6
   have zl:(aK != fX)=false:=bne_eq_false_iff_eq.mpr c6
   clear c6
   (first|rw [pF]|(simp only [dB,dD];rw [pF])|skip)
   by_cases c7:bf.toList=jf.toList
   ·rw [if_pos c7] at H
    have Gm:(bf.toList == jf.toList)=true:=beq_iff_eq.mpr c7
    have Oq:(bf.toList != jf.toList)=false:=bne_eq_false_iff_eq.mpr c7
    clear c7
    replace H:=Option.bind_eq_some_iff.mp H
    obtain ⟨t253,A80,H⟩:=H
    replace H:(if t253=true then (aZ.j0 k ((bG.length:Int) != (gS.length:Int)) aK bf bg bQ bw bT bU bG fX jf gq iP gu jc jd gS) else (aZ.j0 k true aK bf bg bQ bw bT bU bG fX jf gq iP gu jc jd gS))=some r:=H
    have A8:=ah.mk A80
    clear A80
    by_cases c9:t253=true
    ·subst c9
     have H1:(aZ.j0 k ((bG.length:Int) != (gS.length:Int)) aK bf bg bQ bw bT bU bG fX jf gq iP gu jc jd gS)=some r:=by rw [if_pos rfl] at H;exact H
     clear H
     have H:=H1
     clear H1
     have H':=ah.mk H
     clear H
     have aec:=nL.out
     have aed:=nM.out
     have sX:w5.cell? ⟨dU,0,none⟩=some (.int .u8 aK):=(af cg.out 0).trans rfl
     have sY:w5.cell? ⟨dU,1,none⟩=some (.string bf):=(af cg.out 1).trans rfl
     have sZ:w5.cell? ⟨dU,2,none⟩=some (.bool bg):=(af cg.out 2).trans rfl
     have xS:w5.cell? ⟨dU,3,none⟩=some (.slice cO bQ.length cP):=(af cg.out 3).trans rfl
     have xU:w5.cell? ⟨dU,4,none⟩=some (.string bw):=(af cg.out 4).trans rfl
     have Aa:w5.cell? ⟨dU,5,none⟩=some (.string bT):=(af cg.out 5).trans rfl
     have Ac:w5.cell? ⟨dU,6,none⟩=some (.bool bU):=(af cg.out 6).trans rfl
     have Ad:w5.cell? ⟨dU,7,none⟩=some (.slice cS bG.length cQ):=(af cg.out 7).trans rfl
     have s7:=aa cg.out 0
     have s8:=aa cg.out 1
     have s9:=aa cg.out 2
     have xV:=aa cg.out 3
     have xW:=aa cg.out 4
     have Ae:=aa cg.out 5
     have Af:=aa cg.out 6
     have Ag:=aa cg.out 7
     have uI:w5.cell? ⟨eB,0,none⟩=some (.int .u8 fX):=(af cF.out 0).trans rfl
     have uJ:w5.cell? ⟨eB,1,none⟩=some (.string jf):=(af cF.out 1).trans rfl
     have xQ:w5.cell? ⟨eB,2,none⟩=some (.bool gq):=(af cF.out 2).trans rfl
     have zZ:w5.cell? ⟨eB,3,none⟩=some (.slice oo iP.length oq):=(af cF.out 3).trans rfl
     have z6:w5.cell? ⟨eB,4,none⟩=some (.string gu):=(af cF.out 4).trans rfl
     have QE:w5.cell? ⟨eB,5,none⟩=some (.string jc):=(af cF.out 5).trans rfl
     have QF:w5.cell? ⟨eB,6,none⟩=some (.bool jd):=(af cF.out 6).trans rfl
     have QG:w5.cell? ⟨eB,7,none⟩=some (.slice ot gS.length ou):=(af cF.out 7).trans rfl
     have uK:=aa cF.out 0
     have uL:=aa cF.out 1
     have xR:=aa cF.out 2
     have z7:=aa cF.out 3
     have z8:=aa cF.out 4
     have QH:=aa cF.out 5
     have QI:=aa cF.out 6
     have QJ:=aa cF.out 7
     go_wp2_with (first|(go_at_call 18;(with_reducible refine (bH.calls k bg _ _ bQ bw bT bU gq _ _ iP gu jc jd true _ ?aX ?bS ?dH ?eI A8.out).mono ?_);(case aX=>repeat (first|exact (Kd.cI iF.out HB.out)|(with_reducible refine Kd.cK ?_ _)|(with_reducible refine Kd.cL ?_ _)|(with_reducible refine Kd.dG ?_)));(case bS=>exact iG.out);(case dH=>repeat (first|exact (Kd.cI Cw.out HB.out)|(with_reducible refine Kd.cK ?_ _)|(with_reducible refine Kd.cL ?_ _)|(with_reducible refine Kd.dG ?_)));(case eI=>exact Cx.out);rintro e nI ⟨rfl,hb⟩;have bD:=ah.mk (aJ (g:=dU) (o:= .cells #[.int .u8 aK,.string bf,.bool bg,.slice cO bQ.length cP,.string bw,.string bT,.bool bU,.slice cS bG.length cQ] 35 (0,0)) oI hb);have bN:=ah.mk (aJ (g:=eB) (o:= .cells #[.int .u8 fX,.string jf,.bool gq,.slice oo iP.length oq,.string gu,.string jc,.bool jd,.slice ot gS.length ou] 35 (0,0)) rB hb);have cz:=ah.mk (ay oH hb);clear cg;clear cF;clear HB;have cg:=bD;have cF:=bN;have HB:=cz;clear bD bN cz;(try clear hb);(try clear hb2);(try clear hk);(try clear hi);have td:nI.cell? ⟨dU,0,none⟩=some (.int .u8 aK):=(af cg.out 0).trans rfl;have tj:nI.cell? ⟨dU,1,none⟩=some (.string bf):=(af cg.out 1).trans rfl;have u7:nI.cell? ⟨dU,2,none⟩=some (.bool bg):=(af cg.out 2).trans rfl;have u9:nI.cell? ⟨dU,3,none⟩=some (.slice cO bQ.length cP):=(af cg.out 3).trans rfl;have vk:nI.cell? ⟨dU,4,none⟩=some (.string bw):=(af cg.out 4).trans rfl;have vo:nI.cell? ⟨dU,5,none⟩=some (.string bT):=(af cg.out 5).trans rfl;have vq:nI.cell? ⟨dU,6,none⟩=some (.bool bU):=(af cg.out 6).trans rfl;have vv:nI.cell? ⟨dU,7,none⟩=some (.slice cS bG.length cQ):=(af cg.out 7).trans rfl;have tq:=aa cg.out 0;have tu:=aa cg.out 1;have vw:=aa cg.out 2;have vA:=aa cg.out 3;have vB:=aa cg.out 4;have vC:=aa cg.out 5;have vD:=aa cg.out 6;have vE:=aa cg.out 7;have uO:nI.cell? ⟨eB,0,none⟩=some (.int .u8 fX):=(af cF.out 0).trans rfl;have uP:nI.cell? ⟨eB,1,none⟩=some (.string jf):=(af cF.out 1).trans rfl;have uQ:nI.cell? ⟨eB,2,none⟩=some (.bool gq):=(af cF.out 2).trans rfl;have uR:nI.cell? ⟨eB,3,none⟩=some (.slice oo iP.length oq):=(af cF.out 3).trans rfl;have uS:nI.cell? ⟨eB,4,none⟩=some (.string gu):=(af cF.out 4).trans rfl;have DX:nI.cell? ⟨eB,5,none⟩=some (.string jc):=(af cF.out 5).trans rfl;have DY:nI.cell? ⟨eB,6,none⟩=some (.bool jd):=(af cF.out 6).trans rfl;have DZ:nI.cell? ⟨eB,7,none⟩=some (.slice ot gS.length ou):=(af cF.out 7).trans rfl;have uT:=aa cF.out 0;have uU:=aa cF.out 1;have uV:=aa cF.out 2;have uW:=aa cF.out 3;have uX:=aa cF.out 4;have D2:=aa cF.out 5;have D3:=aa cF.out 6;have D4:=aa cF.out 7))
     repeat (go_quiet (first|(go_at_call 18;(with_reducible refine (bH.calls k bg _ _ bQ bw bT bU gq _ _ iP gu jc jd true _ ?aX ?bS ?dH ?eI A8.out).mono ?_);(case aX=>repeat (first|exact (Kd.cI iF.out HB.out)|(with_reducible refine Kd.cK ?_ _)|(with_reducible refine Kd.cL ?_ _)|(with_reducible refine Kd.dG ?_)));(case bS=>exact iG.out);(case dH=>repeat (first|exact (Kd.cI Cw.out HB.out)|(with_reducible refine Kd.cK ?_ _)|(with_reducible refine Kd.cL ?_ _)|(with_reducible refine Kd.dG ?_)));(case eI=>exact Cx.out);rintro e nI ⟨rfl,hb⟩;have bD:=ah.mk (aJ (g:=dU) (o:= .cells #[.int .u8 aK,.string bf,.bool bg,.slice cO bQ.length cP,.string bw,.string bT,.bool bU,.slice cS bG.length cQ] 35 (0,0)) oI hb);have bN:=ah.mk (aJ (g:=eB) (o:= .cells #[.int .u8 fX,.string jf,.bool gq,.slice oo iP.length oq,.string gu,.string jc,.bool jd,.slice ot gS.length ou] 35 (0,0)) rB hb);have cz:=ah.mk (ay oH hb);clear cg;clear cF;clear HB;have cg:=bD;have cF:=bN;have HB:=cz;clear bD bN cz;(try clear hb);(try clear hb2);(try clear hk);(try clear hi);have td:nI.cell? ⟨dU,0,none⟩=some (.int .u8 aK):=(af cg.out 0).trans rfl;have tj:nI.cell? ⟨dU,1,none⟩=some (.string bf):=(af cg.out 1).trans rfl;have u7:nI.cell? ⟨dU,2,none⟩=some (.bool bg):=(af cg.out 2).trans rfl;have u9:nI.cell? ⟨dU,3,none⟩=some (.slice cO bQ.length cP):=(af cg.out 3).trans rfl;have vk:nI.cell? ⟨dU,4,none⟩=some (.string bw):=(af cg.out 4).trans rfl;have vo:nI.cell? ⟨dU,5,none⟩=some (.string bT):=(af cg.out 5).trans rfl;have vq:nI.cell? ⟨dU,6,none⟩=some (.bool bU):=(af cg.out 6).trans rfl;have vv:nI.cell? ⟨dU,7,none⟩=some (.slice cS bG.length cQ):=(af cg.out 7).trans rfl;have tq:=aa cg.out 0;have tu:=aa cg.out 1;have vw:=aa cg.out 2;have vA:=aa cg.out 3;have vB:=aa cg.out 4;have vC:=aa cg.out 5;have vD:=aa cg.out 6;have vE:=aa cg.out 7;have uO:nI.cell? ⟨eB,0,none⟩=some (.int .u8 fX):=(af cF.out 0).trans rfl;have uP:nI.cell? ⟨eB,1,none⟩=some (.string jf):=(af cF.out 1).trans rfl;have uQ:nI.cell? ⟨eB,2,none⟩=some (.bool gq):=(af cF.out 2).trans rfl;have uR:nI.cell? ⟨eB,3,none⟩=some (.slice oo iP.length oq):=(af cF.out 3).trans rfl;have uS:nI.cell? ⟨eB,4,none⟩=some (.string gu):=(af cF.out 4).trans rfl;have DX:nI.cell? ⟨eB,5,none⟩=some (.string jc):=(af cF.out 5).trans rfl;have DY:nI.cell? ⟨eB,6,none⟩=some (.bool jd):=(af cF.out 6).trans rfl;have DZ:nI.cell? ⟨eB,7,none⟩=some (.slice ot gS.length ou):=(af cF.out 7).trans rfl;have uT:=aa cF.out 0;have uU:=aa cF.out 1;have uV:=aa cF.out 2;have uW:=aa cF.out 3;have uX:=aa cF.out 4;have D2:=aa cF.out 5;have D3:=aa cF.out 6;have D4:=aa cF.out 7));try go_wp2_with (first|(go_at_call 18;(with_reducible refine (bH.calls k bg _ _ bQ bw bT bU gq _ _ iP gu jc jd true _ ?aX ?bS ?dH ?eI A8.out).mono ?_);(case aX=>repeat (first|exact (Kd.cI iF.out HB.out)|(with_reducible refine Kd.cK ?_ _)|(with_reducible refine Kd.cL ?_ _)|(with_reducible refine Kd.dG ?_)));(case bS=>exact iG.out);(case dH=>repeat (first|exact (Kd.cI Cw.out HB.out)|(with_reducible refine Kd.cK ?_ _)|(with_reducible refine Kd.cL ?_ _)|(with_reducible refine Kd.dG ?_)));(case eI=>exact Cx.out);rintro e nI ⟨rfl,hb⟩;have bD:=ah.mk (aJ (g:=dU) (o:= .cells #[.int .u8 aK,.string bf,.bool bg,.slice cO bQ.length cP,.string bw,.string bT,.bool bU,.slice cS bG.length cQ] 35 (0,0)) oI hb);have bN:=ah.mk (aJ (g:=eB) (o:= .cells #[.int .u8 fX,.string jf,.bool gq,.slice oo iP.length oq,.string gu,.string jc,.bool jd,.slice ot gS.length ou] 35 (0,0)) rB hb);have cz:=ah.mk (ay oH hb);clear cg;clear cF;clear HB;have cg:=bD;have cF:=bN;have HB:=cz;clear bD bN cz;(try clear hb);(try clear hb2);(try clear hk);(try clear hi);have td:nI.cell? ⟨dU,0,none⟩=some (.int .u8 aK):=(af cg.out 0).trans rfl;have tj:nI.cell? ⟨dU,1,none⟩=some (.string bf):=(af cg.out 1).trans rfl;have u7:nI.cell? ⟨dU,2,none⟩=some (.bool bg):=(af cg.out 2).trans rfl;have u9:nI.cell? ⟨dU,3,none⟩=some (.slice cO bQ.length cP):=(af cg.out 3).trans rfl;have vk:nI.cell? ⟨dU,4,none⟩=some (.string bw):=(af cg.out 4).trans rfl;have vo:nI.cell? ⟨dU,5,none⟩=some (.string bT):=(af cg.out 5).trans rfl;have vq:nI.cell? ⟨dU,6,none⟩=some (.bool bU):=(af cg.out 6).trans rfl;have vv:nI.cell? ⟨dU,7,none⟩=some (.slice cS bG.length cQ):=(af cg.out 7).trans rfl;have tq:=aa cg.out 0;have tu:=aa cg.out 1;have vw:=aa cg.out 2;have vA:=aa cg.out 3;have vB:=aa cg.out 4;have vC:=aa cg.out 5;have vD:=aa cg.out 6;have vE:=aa cg.out 7;have uO:nI.cell? ⟨eB,0,none⟩=some (.int .u8 fX):=(af cF.out 0).trans rfl;have uP:nI.cell? ⟨eB,1,none⟩=some (.string jf):=(af cF.out 1).trans rfl;have uQ:nI.cell? ⟨eB,2,none⟩=some (.bool gq):=(af cF.out 2).trans rfl;have uR:nI.cell? ⟨eB,3,none⟩=some (.slice oo iP.length oq):=(af cF.out 3).trans rfl;have uS:nI.cell? ⟨eB,4,none⟩=some (.string gu):=(af cF.out 4).trans rfl;have DX:nI.cell? ⟨eB,5,none⟩=some (.string jc):=(af cF.out 5).trans rfl;have DY:nI.cell? ⟨eB,6,none⟩=some (.bool jd):=(af cF.out 6).trans rfl;have DZ:nI.cell? ⟨eB,7,none⟩=some (.slice ot gS.length ou):=(af cF.out 7).trans rfl;have uT:=aa cF.out 0;have uU:=aa cF.out 1;have uV:=aa cF.out 2;have uW:=aa cF.out 3;have uX:=aa cF.out 4;have D2:=aa cF.out 5;have D3:=aa cF.out 6;have D4:=aa cF.out 7)))
     go_meet
     case rel=>exact ⟨_,(((bG.length:Int) != (gS.length:Int))),ey,H',⟨nU⟩,⟨oI⟩,⟨rB⟩,⟨oH⟩⟩
    ·replace c9:=Bool.eq_false_iff.mpr c9
     subst c9
     have H1:(aZ.j0 k true aK bf bg bQ bw bT bU bG fX jf gq iP gu jc jd gS)=some r:=by rw [if_neg (show ¬ (false=true) by decide)] at H;exact H
     clear H
     have H:=H1
     clear H1
     have H':=ah.mk H
     clear H
     have aoN:=nL.out
     have aoO:=nM.out
     have tv:w5.cell? ⟨dU,0,none⟩=some (.int .u8 aK):=(af cg.out 0).trans rfl
     have tA:w5.cell? ⟨dU,1,none⟩=some (.string bf):=(af cg.out 1).trans rfl
     have Ah:w5.cell? ⟨dU,2,none⟩=some (.bool bg):=(af cg.out 2).trans rfl
     have Jg:w5.cell? ⟨dU,3,none⟩=some (.slice cO bQ.length cP):=(af cg.out 3).trans rfl
     have Jh:w5.cell? ⟨dU,4,none⟩=some (.string bw):=(af cg.out 4).trans rfl
     have Ji:w5.cell? ⟨dU,5,none⟩=some (.string bT):=(af cg.out 5).trans rfl
     have Jj:w5.cell? ⟨dU,6,none⟩=some (.bool bU):=(af cg.out 6).trans rfl
     have Jk:w5.cell? ⟨dU,7,none⟩=some (.slice cS bG.length cQ):=(af cg.out 7).trans rfl
     have tB:=aa cg.out 0
     have tC:=aa cg.out 1
     have Ai:=aa cg.out 2
     have Jl:=aa cg.out 3
     have Jm:=aa cg.out 4
     have Jn:=aa cg.out 5
     have Jo:=aa cg.out 6
     have Jp:=aa cg.out 7
     have vF:w5.cell? ⟨eB,0,none⟩=some (.int .u8 fX):=(af cF.out 0).trans rfl
     have vG:w5.cell? ⟨eB,1,none⟩=some (.string jf):=(af cF.out 1).trans rfl
     have xX:w5.cell? ⟨eB,2,none⟩=some (.bool gq):=(af cF.out 2).trans rfl
     have D5:w5.cell? ⟨eB,3,none⟩=some (.slice oo iP.length oq):=(af cF.out 3).trans rfl
     have D6:w5.cell? ⟨eB,4,none⟩=some (.string gu):=(af cF.out 4).trans rfl
     have Jq:w5.cell? ⟨eB,5,none⟩=some (.string jc):=(af cF.out 5).trans rfl
     have Jr:w5.cell? ⟨eB,6,none⟩=some (.bool jd):=(af cF.out 6).trans rfl
     have Js:w5.cell? ⟨eB,7,none⟩=some (.slice ot gS.length ou):=(af cF.out 7).trans rfl
     have vH:=aa cF.out 0
     have vI:=aa cF.out 1
     have xY:=aa cF.out 2
     have D7:=aa cF.out 3
     have D8:=aa cF.out 4
     have Jt:=aa cF.out 5
     have Ju:=aa cF.out 6
     have Jv:=aa cF.out 7
     go_wp2_with (first|(go_at_call 18;(with_reducible refine (bH.calls k bg _ _ bQ bw bT bU gq _ _ iP gu jc jd false _ ?aX ?bS ?dH ?eI A8.out).mono ?_);(case aX=>repeat (first|exact (Kd.cI iF.out HB.out)|(with_reducible refine Kd.cK ?_ _)|(with_reducible refine Kd.cL ?_ _)|(with_reducible refine Kd.dG ?_)));(case bS=>exact iG.out);(case dH=>repeat (first|exact (Kd.cI Cw.out HB.out)|(with_reducible refine Kd.cK ?_ _)|(with_reducible refine Kd.cL ?_ _)|(with_reducible refine Kd.dG ?_)));(case eI=>exact Cx.out);rintro e LQ ⟨rfl,hb⟩;have bD:=ah.mk (aJ (g:=dU) (o:= .cells #[.int .u8 aK,.string bf,.bool bg,.slice cO bQ.length cP,.string bw,.string bT,.bool bU,.slice cS bG.length cQ] 35 (0,0)) oI hb);have bN:=ah.mk (aJ (g:=eB) (o:= .cells #[.int .u8 fX,.string jf,.bool gq,.slice oo iP.length oq,.string gu,.string jc,.bool jd,.slice ot gS.length ou] 35 (0,0)) rB hb);have cz:=ah.mk (ay oH hb);clear cg;clear cF;clear HB;have cg:=bD;have cF:=bN;have HB:=cz;clear bD bN cz;(try clear hb);(try clear hb2);(try clear hk);(try clear hi)))
     repeat (go_quiet (first|(go_at_call 18;(with_reducible refine (bH.calls k bg _ _ bQ bw bT bU gq _ _ iP gu jc jd false _ ?aX ?bS ?dH ?eI A8.out).mono ?_);(case aX=>repeat (first|exact (Kd.cI iF.out HB.out)|(with_reducible refine Kd.cK ?_ _)|(with_reducible refine Kd.cL ?_ _)|(with_reducible refine Kd.dG ?_)));(case bS=>exact iG.out);(case dH=>repeat (first|exact (Kd.cI Cw.out HB.out)|(with_reducible refine Kd.cK ?_ _)|(with_reducible refine Kd.cL ?_ _)|(with_reducible refine Kd.dG ?_)));(case eI=>exact Cx.out);rintro e LQ ⟨rfl,hb⟩;have bD:=ah.mk (aJ (g:=dU) (o:= .cells #[.int .u8 aK,.string bf,.bool bg,.slice cO bQ.length cP,.string bw,.string bT,.bool bU,.slice cS bG.length cQ] 35 (0,0)) oI hb);have bN:=ah.mk (aJ (g:=eB) (o:= .cells #[.int .u8 fX,.string jf,.bool gq,.slice oo iP.length oq,.string gu,.string jc,.bool jd,.slice ot gS.length ou] 35 (0,0)) rB hb);have cz:=ah.mk (ay oH hb);clear cg;clear cF;clear HB;have cg:=bD;have cF:=bN;have HB:=cz;clear bD bN cz;(try clear hb);(try clear hb2);(try clear hk);(try clear hi)));try go_wp2_with (first|(go_at_call 18;(with_reducible refine (bH.calls k bg _ _ bQ bw bT bU gq _ _ iP gu jc jd false _ ?aX ?bS ?dH ?eI A8.out).mono ?_);(case aX=>repeat (first|exact (Kd.cI iF.out HB.out)|(with_reducible refine Kd.cK ?_ _)|(with_reducible refine Kd.cL ?_ _)|(with_reducible refine Kd.dG ?_)));(case bS=>exact iG.out);(case dH=>repeat (first|exact (Kd.cI Cw.out HB.out)|(with_reducible refine Kd.cK ?_ _)|(with_reducible refine Kd.cL ?_ _)|(with_reducible refine Kd.dG ?_)));(case eI=>exact Cx.out);rintro e LQ ⟨rfl,hb⟩;have bD:=ah.mk (aJ (g:=dU) (o:= .cells #[.int .u8 aK,.string bf,.bool bg,.slice cO bQ.length cP,.string bw,.string bT,.bool bU,.slice cS bG.length cQ] 35 (0,0)) oI hb);have bN:=ah.mk (aJ (g:=eB) (o:= .cells #[.int .u8 fX,.string jf,.bool gq,.slice oo iP.length oq,.string gu,.string jc,.bool jd,.slice ot gS.length ou] 35 (0,0)) rB hb);have cz:=ah.mk (ay oH hb);clear cg;clear cF;clear HB;have cg:=bD;have cF:=bN;have HB:=cz;clear bD bN cz;(try clear hb);(try clear hb2);(try clear hk);(try clear hi))))
     go_meet
     case rel=>exact ⟨_,(true),ey,H',⟨nU⟩,⟨oI⟩,⟨rB⟩,⟨oH⟩⟩
   ·rw [if_neg c7] at H
    have Gm:(bf.toList == jf.toList)=false:=beq_eq_false_iff_ne.mpr c7
    have Oq:(bf.toList != jf.toList)=true:=bne_iff_ne.mpr c7
    have H':=ah.mk H
    clear H
    have aoP:=nL.out
    have aoQ:=nM.out
    have xZ:w5.cell? ⟨dU,0,none⟩=some (.int .u8 aK):=(af cg.out 0).trans rfl
    have ya:w5.cell? ⟨dU,1,none⟩=some (.string bf):=(af cg.out 1).trans rfl
    have yc:w5.cell? ⟨dU,2,none⟩=some (.bool bg):=(af cg.out 2).trans rfl
    have D9:w5.cell? ⟨dU,3,none⟩=some (.slice cO bQ.length cP):=(af cg.out 3).trans rfl
    have Ea:w5.cell? ⟨dU,4,none⟩=some (.string bw):=(af cg.out 4).trans rfl
    have Jw:w5.cell? ⟨dU,5,none⟩=some (.string bT):=(af cg.out 5).trans rfl
    have Jx:w5.cell? ⟨dU,6,none⟩=some (.bool bU):=(af cg.out 6).trans rfl
    have Jy:w5.cell? ⟨dU,7,none⟩=some (.slice cS bG.length cQ):=(af cg.out 7).trans rfl
    have yf:=aa cg.out 0
    have yg:=aa cg.out 1
    have yh:=aa cg.out 2
    have Eb:=aa cg.out 3
    have Ec:=aa cg.out 4
    have Jz:=aa cg.out 5
    have JA:=aa cg.out 6
    have JB:=aa cg.out 7
    have yj:w5.cell? ⟨eB,0,none⟩=some (.int .u8 fX):=(af cF.out 0).trans rfl
    have yl:w5.cell? ⟨eB,1,none⟩=some (.string jf):=(af cF.out 1).trans rfl
    have Aj:w5.cell? ⟨eB,2,none⟩=some (.bool gq):=(af cF.out 2).trans rfl
    have JC:w5.cell? ⟨eB,3,none⟩=some (.slice oo iP.length oq):=(af cF.out 3).trans rfl
    have JD:w5.cell? ⟨eB,4,none⟩=some (.string gu):=(af cF.out 4).trans rfl
    have QK:w5.cell? ⟨eB,5,none⟩=some (.string jc):=(af cF.out 5).trans rfl
    have QL:w5.cell? ⟨eB,6,none⟩=some (.bool jd):=(af cF.out 6).trans rfl
    have QM:w5.cell? ⟨eB,7,none⟩=some (.slice ot gS.length ou):=(af cF.out 7).trans rfl
    have ym:=aa cF.out 0
    have yq:=aa cF.out 1
    have Ak:=aa cF.out 2
    have JE:=aa cF.out 3
    have JF:=aa cF.out 4
    have QN:=aa cF.out 5
    have QO:=aa cF.out 6
    have QS:=aa cF.out 7
    go_wp2
    repeat (go_quiet (fail);try go_wp2)
    go_meet
    case rel=>exact ⟨_,(true),ey,H',⟨nU⟩,⟨oI⟩,⟨rB⟩,⟨oH⟩⟩
  ·rw [if_neg c6] at H
   have pF:(aK == fX)=false:=beq_eq_false_iff_ne.mpr c6
   have zl:(aK != fX)=true:=bne_iff_ne.mpr c6
   (first|rw [pF]|(simp only [dB,dD];rw [pF])|skip)
   have H':=ah.mk H
   clear H
   have aee:=nL.out
   have aef:=nM.out
   have yt:w5.cell? ⟨dU,0,none⟩=some (.int .u8 aK):=(af cg.out 0).trans rfl
   have yu:w5.cell? ⟨dU,1,none⟩=some (.string bf):=(af cg.out 1).trans rfl
   have JG:w5.cell? ⟨dU,2,none⟩=some (.bool bg):=(af cg.out 2).trans rfl
   have JH:w5.cell? ⟨dU,3,none⟩=some (.slice cO bQ.length cP):=(af cg.out 3).trans rfl
   have JI:w5.cell? ⟨dU,4,none⟩=some (.string bw):=(af cg.out 4).trans rfl
   have JJ:w5.cell? ⟨dU,5,none⟩=some (.string bT):=(af cg.out 5).trans rfl
   have JK:w5.cell? ⟨dU,6,none⟩=some (.bool bU):=(af cg.out 6).trans rfl
   have JL:w5.cell? ⟨dU,7,none⟩=some (.slice cS bG.length cQ):=(af cg.out 7).trans rfl
   have yw:=aa cg.out 0
   have yx:=aa cg.out 1
   have JM:=aa cg.out 2
   have JN:=aa cg.out 3
   have JO:=aa cg.out 4
   have JP:=aa cg.out 5
   have JQ:=aa cg.out 6
   have JR:=aa cg.out 7
   have tD:w5.cell? ⟨eB,0,none⟩=some (.int .u8 fX):=(af cF.out 0).trans rfl
   have tE:w5.cell? ⟨eB,1,none⟩=some (.string jf):=(af cF.out 1).trans rfl
   have tF:w5.cell? ⟨eB,2,none⟩=some (.bool gq):=(af cF.out 2).trans rfl
   have yz:w5.cell? ⟨eB,3,none⟩=some (.slice oo iP.length oq):=(af cF.out 3).trans rfl
   have yA:w5.cell? ⟨eB,4,none⟩=some (.string gu):=(af cF.out 4).trans rfl
   have QT:w5.cell? ⟨eB,5,none⟩=some (.string jc):=(af cF.out 5).trans rfl
   have QU:w5.cell? ⟨eB,6,none⟩=some (.bool jd):=(af cF.out 6).trans rfl
   have QV:w5.cell? ⟨eB,7,none⟩=some (.slice ot gS.length ou):=(af cF.out 7).trans rfl
   have tG:=aa cF.out 0
   have tH:=aa cF.out 1
   have tI:=aa cF.out 2
   have yB:=aa cF.out 3
   have yC:=aa cF.out 4
   have QW:=aa cF.out 5
   have QX:=aa cF.out 6
   have QY:=aa cF.out 7
   go_wp2
   repeat (go_quiet (fail);try go_wp2)
   go_meet
   case rel=>exact ⟨_,(true),ey,H',⟨nU⟩,⟨oI⟩,⟨rB⟩,⟨oH⟩⟩
 case rest=>
  clear UX
  try clear c1
  try clear c2
  try clear p2
  try clear c3
  try clear c6
  try clear pF
  try clear zl
  try clear c7
  try clear Gm
  try clear Oq
  try clear c9
  try clear c10
  try clear c16
  try clear c20
  try clear UY
  try clear sX
  try clear sY
  try clear sZ
  try clear xS
  try clear xU
  try clear Aa
  try clear Ac
  try clear Ad
  try clear uI
  try clear uJ
  try clear xQ
  try clear zZ
  try clear z6
  try clear QE
  try clear QF
  try clear QG
  try clear td
  try clear tj
  try clear u7
  try clear u9
  try clear vk
  try clear vo
  try clear vq
  try clear vv
  try clear uO
  try clear uP
  try clear uQ
  try clear uR
  try clear uS
  try clear DX
  try clear DY
  try clear DZ
  try clear tv
  try clear tA
  try clear Ah
  try clear Jg
  try clear Jh
  try clear Ji
  try clear Jj
  try clear Jk
  try clear vF
  try clear vG
  try clear xX
  try clear D5
  try clear D6
  try clear Jq
  try clear Jr
  try clear Js
  try clear xZ
  try clear ya
  try clear yc
  try clear D9
  try clear Ea
  try clear Jw
  try clear Jx
  try clear Jy
  try clear yj
  try clear yl
  try clear Aj
  try clear JC
  try clear JD
  try clear QK
  try clear QL
  try clear QM
  try clear yt
  try clear yu
  try clear JG
  try clear JH
  try clear JI
  try clear JJ
  try clear JK
  try clear JL
  try clear tD
  try clear tE
  try clear tF
  try clear yz
  try clear yA
  try clear QT
  try clear QU
  try clear QV
  try clear s7
  try clear s8
  try clear s9
  try clear xV
  try clear xW
  try clear Ae
  try clear Af
  try clear Ag
  try clear uK
  try clear uL
  try clear xR
  try clear z7
  try clear z8
  try clear QH
  try clear QI
  try clear QJ
  try clear tq
  try clear tu
  try clear vw
  try clear vA
  try clear vB
  try clear vC
  try clear vD
  try clear vE
  try clear uT
  try clear uU
  try clear uV
  try clear uW
  try clear uX
  try clear D2
  try clear D3
  try clear D4
  try clear tB
  try clear tC
  try clear Ai
  try clear Jl
  try clear Jm
  try clear Jn
  try clear Jo
  try clear Jp
  try clear vH
  try clear vI
  try clear xY
  try clear D7
  try clear D8
  try clear Jt
  try clear Ju
  try clear Jv
  try clear yf
  try clear yg
  try clear yh
  try clear Eb
  try clear Ec
  try clear Jz
  try clear JA
  try clear JB
  try clear ym
  try clear yq
  try clear Ak
  try clear JE
  try clear JF
  try clear QN
  try clear QO
  try clear QS
  try clear yw
  try clear yx
  try clear JM
  try clear JN
  try clear JO
  try clear JP
  try clear JQ
  try clear JR
  try clear tG
  try clear tH
  try clear tI
  try clear yB
  try clear yC
  try clear QW
  try clear QX
  try clear QY
  obtain ⟨kq,QD,rfl,HA,HJ2,cg,cF,HB⟩:=hcut
  cases kq with
  |zero=>exact absurd HA.out (by simp [aZ.j0])
  |succ C6=>
   have H:=HA.out
   clear HA
   simp only [aZ.j0] at H
   by_cases TU:QD=true
   ·subst TU
    have H1:(some false)=some r:=by rw [if_pos rfl] at H;exact H
    clear H
    have H:=H1
    clear H1
    obtain rfl:=Option.some.inj H
    go_wp2
    repeat (go_quiet (fail);try go_wp2)
    go_ret
    exact ⟨cZ,oH⟩
   ·replace TU:=Bool.eq_false_iff.mpr TU
    subst TU
    have H1:(aZ.l0 C6 (bG.length:Int) 0 aK bf bg bQ bw bT bU bG fX jf gq iP gu jc jd gS)=some r:=by rw [if_neg (show ¬ (false=true) by decide)] at H;exact H
    clear H
    have H:=H1
    clear H1
    have H':=ah.mk H
    clear H
    have aaF:=nL.out
    have aaG:=nM.out
    have Al:wc.cell? ⟨dU,0,none⟩=some (.int .u8 aK):=(af cg.out 0).trans rfl
    have Am:wc.cell? ⟨dU,1,none⟩=some (.string bf):=(af cg.out 1).trans rfl
    have Ao:wc.cell? ⟨dU,2,none⟩=some (.bool bg):=(af cg.out 2).trans rfl
    have Ed:wc.cell? ⟨dU,3,none⟩=some (.slice cO bQ.length cP):=(af cg.out 3).trans rfl
    have Ee:wc.cell? ⟨dU,4,none⟩=some (.string bw):=(af cg.out 4).trans rfl
    have Ef:wc.cell? ⟨dU,5,none⟩=some (.string bT):=(af cg.out 5).trans rfl
    have Eg:wc.cell? ⟨dU,6,none⟩=some (.bool bU):=(af cg.out 6).trans rfl
    have Eh:wc.cell? ⟨dU,7,none⟩=some (.slice cS bG.length cQ):=(af cg.out 7).trans rfl
    have Ap:=aa cg.out 0
    have Aq:=aa cg.out 1
    have Ar:=aa cg.out 2
    have Ei:=aa cg.out 3
    have Ej:=aa cg.out 4
    have Ek:=aa cg.out 5
    have El:=aa cg.out 6
    have Em:=aa cg.out 7
    go_wp2
    repeat (go_quiet (fail);try go_wp2)
    go_loopg [38] C6 (fun kq v38 w'=>∃ (iT:Int),v38= .int .i64 iT∧ah (aZ.l0 kq (bG.length:Int) iT aK bf bg bQ bw bT bU bG fX jf gq iP gu jc jd gS=some r)∧ah (kq≤C6)∧ah (w'.heap[dU]? =some (.cells #[.int .u8 aK,.string bf,.bool bg,(.slice cO bQ.length cP),.string bw,.string bT,.bool bU,(.slice cS bG.length cQ)] 35 (0,0)))∧ah (w'.heap[eB]? =some (.cells #[.int .u8 fX,.string jf,.bool gq,(.slice oo iP.length oq),.string gu,.string jc,.bool jd,(.slice ot gS.length ou)] 35 (0,0)))∧ah (Below w.heap.size w w'))
    case atStart=>exact ⟨(0),ey,H',⟨Nat.le_refl _⟩,⟨oI⟩,⟨rB⟩,⟨oH⟩⟩
    case round=>
     clear H'
     try clear c1
     try clear c2
     try clear p2
     try clear c3
     try clear c6
     try clear pF
     try clear zl
     try clear c7
     try clear Gm
     try clear Oq
     try clear c9
     try clear c10
     try clear c16
     try clear c20
     try clear UY
     try clear TU
     try clear QZ
     try clear sX
     try clear sY
     try clear sZ
     try clear xS
     try clear xU
     try clear Aa
     try clear Ac
     try clear Ad
     try clear uI
     try clear uJ
     try clear xQ
     try clear zZ
     try clear z6
     try clear QE
     try clear QF
     try clear QG
     try clear td
     try clear tj
     try clear u7
     try clear u9
     try clear vk
     try clear vo
     try clear vq
     try clear vv
     try clear uO
     try clear uP
     try clear uQ
     try clear uR
     try clear uS
     try clear DX
     try clear DY
     try clear DZ
     try clear tv
     try clear tA
     try clear Ah
     try clear Jg
     try clear Jh
     try clear Ji
     try clear Jj
     try clear Jk
     try clear vF
     try clear vG
     try clear xX
     try clear D5
     try clear D6
     try clear Jq
     try clear Jr
     try clear Js
     try clear xZ
     try clear ya
     try clear yc
     try clear D9
     try clear Ea
     try clear Jw
     try clear Jx
     try clear Jy
     try clear yj
     try clear yl
     try clear Aj
     try clear JC
     try clear JD
     try clear QK
     try clear QL
     try clear QM
     try clear yt
     try clear yu
     try clear JG
     try clear JH
     try clear JI
     try clear JJ
     try clear JK
     try clear JL
     try clear tD
     try clear tE
     try clear tF
     try clear yz
     try clear yA
     try clear QT
     try clear QU
     try clear QV
     try clear Al
     try clear Am
     try clear Ao
     try clear Ed
     try clear Ee
     try clear Ef
     try clear Eg
     try clear Eh
     try clear s7
     try clear s8
     try clear s9
     try clear xV
     try clear xW
     try clear Ae
     try clear Af
     try clear Ag
     try clear uK
     try clear uL
     try clear xR
     try clear z7
     try clear z8
     try clear QH
     try clear QI
     try clear QJ
     try clear tq
     try clear tu
     try clear vw
     try clear vA
     try clear vB
     try clear vC
     try clear vD
     try clear vE
     try clear uT
     try clear uU
     try clear uV
     try clear uW
     try clear uX
     try clear D2
     try clear D3
     try clear D4
     try clear tB
     try clear tC
     try clear Ai
     try clear Jl
     try clear Jm
     try clear Jn
     try clear Jo
     try clear Jp
     try clear vH
     try clear vI
     try clear xY
     try clear D7
     try clear D8
     try clear Jt
     try clear Ju
     try clear Jv
     try clear yf
     try clear yg
     try clear yh
     try clear Eb
     try clear Ec
     try clear Jz
     try clear JA
     try clear JB
     try clear ym
     try clear yq
     try clear Ak
     try clear JE
     try clear JF
     try clear QN
     try clear QO
     try clear QS
     try clear yw
     try clear yx
     try clear JM
     try clear JN
     try clear JO
     try clear JP
     try clear JQ
     try clear JR
     try clear tG
     try clear tH
     try clear tI
     try clear yB
     try clear yC
     try clear QW
     try clear QX
     try clear QY
     try clear Ap
     try clear Aq
     try clear Ar
     try clear Ei
     try clear Ej
     try clear Ek
     try clear El
     try clear Em
     try clear p2
     obtain ⟨iT,rfl,HA,Ob,cg,cF,HB⟩:=hrel
     cases gk with
     |zero=>exact absurd HA.out (by simp [aZ.l0])
     |succ k2=>
      have H:=HA.out
      clear HA
      simp only [aZ.l0] at H
      by_cases TV:iT < (bG.length:Int)
      ·rw [if_pos TV] at H
       have aaH:decide (iT < (bG.length:Int))=true:=decide_eq_true TV
       clear TV
       by_cases Ot: 0≤iT
       ·rw [if_pos Ot] at H
        have aeg:decide (0≤iT)=true:=decide_eq_true Ot
        clear Ot
        by_cases c31:iT < (bG.length:Int)
        ·rw [if_pos c31] at H
         have aoR:decide (iT < (bG.length:Int))=true:=decide_eq_true c31
         clear c31
         by_cases Gr:iT < (gS.length:Int)
         ·rw [if_pos Gr] at H
          have LR:decide (iT < (gS.length:Int))=true:=decide_eq_true Gr
          clear Gr
          by_cases JS:(!((((dN bG iT).f0).toList) == (((dN gS iT).f0).toList)) || (!((((dN bG iT).f1).toList) == (((dN gS iT).f1).toList)) || (!(((dN bG iT).f2) == ((dN gS iT).f2)))))=true
          ·rw [if_pos JS] at H
           have Q0:(!((((dN bG iT).f0).toList) == (((dN gS iT).f0).toList)) || (!((((dN bG iT).f1).toList) == (((dN gS iT).f1).toList)) || (!(((dN bG iT).f2) == ((dN gS iT).f2)))))=true:=JS
           clear JS
           obtain rfl:=Option.some.inj H
           have aeh:=nL.out
           have aei:=nM.out
           have Au:wr.cell? ⟨dU,0,none⟩=some (.int .u8 aK):=(af cg.out 0).trans rfl
           have Av:wr.cell? ⟨dU,1,none⟩=some (.string bf):=(af cg.out 1).trans rfl
           have Aw:wr.cell? ⟨dU,2,none⟩=some (.bool bg):=(af cg.out 2).trans rfl
           have Q3:wr.cell? ⟨dU,3,none⟩=some (.slice cO bQ.length cP):=(af cg.out 3).trans rfl
           have Q4:wr.cell? ⟨dU,4,none⟩=some (.string bw):=(af cg.out 4).trans rfl
           have Xt:wr.cell? ⟨dU,5,none⟩=some (.string bT):=(af cg.out 5).trans rfl
           have Xu:wr.cell? ⟨dU,6,none⟩=some (.bool bU):=(af cg.out 6).trans rfl
           have Xv:wr.cell? ⟨dU,7,none⟩=some (.slice cS bG.length cQ):=(af cg.out 7).trans rfl
           have Ax:=aa cg.out 0
           have Ay:=aa cg.out 1
           have Az:=aa cg.out 2
           have Q5:=aa cg.out 3
           have Q6:=aa cg.out 4
           have Xw:=aa cg.out 5
           have Xx:=aa cg.out 6
           have Xy:=aa cg.out 7
           have Ou: 0≤(iT:Int):=of_decide_eq_true cX
           have Ov:iT < (bG.length:Int):=of_decide_eq_true cX
           obtain ⟨aej,abW,vJ,vK,vL⟩:=wN iV.out iT Ou Ov
           cases abW
           replace vJ:=(HB.out.cell (World.block_lt_of_cell? w _ vJ)).trans vJ
           replace vK:=(HB.out.cell (World.block_lt_of_cell? w _ vK)).trans vK
           replace vL:=(HB.out.cell (World.block_lt_of_cell? w _ vL)).trans vL
           replace Ou:=eq_true Ou
           replace Ov:=eq_true Ov
           have AA:wr.cell? ⟨eB,0,none⟩=some (.int .u8 fX):=(af cF.out 0).trans rfl
           have AB:wr.cell? ⟨eB,1,none⟩=some (.string jf):=(af cF.out 1).trans rfl
           have AE:wr.cell? ⟨eB,2,none⟩=some (.bool gq):=(af cF.out 2).trans rfl
           have Q7:wr.cell? ⟨eB,3,none⟩=some (.slice oo iP.length oq):=(af cF.out 3).trans rfl
           have Q8:wr.cell? ⟨eB,4,none⟩=some (.string gu):=(af cF.out 4).trans rfl
           have Xz:wr.cell? ⟨eB,5,none⟩=some (.string jc):=(af cF.out 5).trans rfl
           have XA:wr.cell? ⟨eB,6,none⟩=some (.bool jd):=(af cF.out 6).trans rfl
           have XB:wr.cell? ⟨eB,7,none⟩=some (.slice ot gS.length ou):=(af cF.out 7).trans rfl
           have AG:=aa cF.out 0
           have AH:=aa cF.out 1
           have AJ:=aa cF.out 2
           have Q9:=aa cF.out 3
           have Ra:=aa cF.out 4
           have XC:=aa cF.out 5
           have XD:=aa cF.out 6
           have XE:=aa cF.out 7
           have Ow: 0≤(iT:Int):=of_decide_eq_true cX
           have Ox:iT < (gS.length:Int):=of_decide_eq_true cX
           obtain ⟨aek,abX,vM,vN,vO⟩:=wN QC.out iT Ow Ox
           cases abX
           replace vM:=(HB.out.cell (World.block_lt_of_cell? w _ vM)).trans vM
           replace vN:=(HB.out.cell (World.block_lt_of_cell? w _ vN)).trans vN
           replace vO:=(HB.out.cell (World.block_lt_of_cell? w _ vO)).trans vO
           replace Ow:=eq_true Ow
           replace Ox:=eq_true Ox
           go_wp2
           repeat (go_quiet (fail);try go_wp2)
           go_ret
           exact ⟨cZ,oH⟩
          ·rw [if_neg JS] at H
           have Q0:(!((((dN bG iT).f0).toList) == (((dN gS iT).f0).toList)) || (!((((dN bG iT).f1).toList) == (((dN gS iT).f1).toList)) || (!(((dN bG iT).f2) == ((dN gS iT).f2)))))=false:=by simpa using JS
           clear JS
           have H':=ah.mk H
           clear H
           have aoS:=nL.out
           have aoT:=nM.out
           have XF:wr.cell? ⟨dU,0,none⟩=some (.int .u8 aK):=(af cg.out 0).trans rfl
           have XG:wr.cell? ⟨dU,1,none⟩=some (.string bf):=(af cg.out 1).trans rfl
           have XH:wr.cell? ⟨dU,2,none⟩=some (.bool bg):=(af cg.out 2).trans rfl
           have XI:wr.cell? ⟨dU,3,none⟩=some (.slice cO bQ.length cP):=(af cg.out 3).trans rfl
           have XJ:wr.cell? ⟨dU,4,none⟩=some (.string bw):=(af cg.out 4).trans rfl
           have ahs:wr.cell? ⟨dU,5,none⟩=some (.string bT):=(af cg.out 5).trans rfl
           have aht:wr.cell? ⟨dU,6,none⟩=some (.bool bU):=(af cg.out 6).trans rfl
           have ahu:wr.cell? ⟨dU,7,none⟩=some (.slice cS bG.length cQ):=(af cg.out 7).trans rfl
           have XK:=aa cg.out 0
           have XL:=aa cg.out 1
           have XM:=aa cg.out 2
           have XN:=aa cg.out 3
           have XO:=aa cg.out 4
           have ahv:=aa cg.out 5
           have ahw:=aa cg.out 6
           have ahx:=aa cg.out 7
           have Ou: 0≤(iT:Int):=of_decide_eq_true cX
           have Ov:iT < (bG.length:Int):=of_decide_eq_true cX
           obtain ⟨aej,abW,vJ,vK,vL⟩:=wN iV.out iT Ou Ov
           cases abW
           replace vJ:=(HB.out.cell (World.block_lt_of_cell? w _ vJ)).trans vJ
           replace vK:=(HB.out.cell (World.block_lt_of_cell? w _ vK)).trans vK
           replace vL:=(HB.out.cell (World.block_lt_of_cell? w _ vL)).trans vL
           replace Ou:=eq_true Ou
           replace Ov:=eq_true Ov
           have AK:wr.cell? ⟨eB,0,none⟩=some (.int .u8 fX):=(af cF.out 0).trans rfl
           have AL:wr.cell? ⟨eB,1,none⟩=some (.string jf):=(af cF.out 1).trans rfl
           have Rb:wr.cell? ⟨eB,2,none⟩=some (.bool gq):=(af cF.out 2).trans rfl
           have XP:wr.cell? ⟨eB,3,none⟩=some (.slice oo iP.length oq):=(af cF.out 3).trans rfl
           have XQ:wr.cell? ⟨eB,4,none⟩=some (.string gu):=(af cF.out 4).trans rfl
           have XR:wr.cell? ⟨eB,5,none⟩=some (.string jc):=(af cF.out 5).trans rfl
           have XS:wr.cell? ⟨eB,6,none⟩=some (.bool jd):=(af cF.out 6).trans rfl
           have XT:wr.cell? ⟨eB,7,none⟩=some (.slice ot gS.length ou):=(af cF.out 7).trans rfl
           have AO:=aa cF.out 0
           have AP:=aa cF.out 1
           have Rc:=aa cF.out 2
           have XU:=aa cF.out 3
           have XV:=aa cF.out 4
           have XW:=aa cF.out 5
           have XX:=aa cF.out 6
           have XY:=aa cF.out 7
           have Ow: 0≤(iT:Int):=of_decide_eq_true cX
           have Ox:iT < (gS.length:Int):=of_decide_eq_true cX
           obtain ⟨aek,abX,vM,vN,vO⟩:=wN QC.out iT Ow Ox
           cases abX
           replace vM:=(HB.out.cell (World.block_lt_of_cell? w _ vM)).trans vM
           replace vN:=(HB.out.cell (World.block_lt_of_cell? w _ vN)).trans vN
           replace vO:=(HB.out.cell (World.block_lt_of_cell? w _ vO)).trans vO
           replace Ow:=eq_true Ow
           replace Ox:=eq_true Ox
           go_wp2
           repeat (go_quiet (fail);try go_wp2)
           go_roundg k2
           case measure=>have:=HJ2.out;have:=Ob.out;omega
           case rel=>exact ⟨(wrap64 (iT + 1)),ey,H',⟨by have:=HJ2.out;have:=Ob.out;omega⟩,⟨oI⟩,⟨rB⟩,⟨oH⟩⟩
         ·rw [if_neg Gr] at H
          exact absurd H bn
        ·rw [if_neg c31] at H
         exact absurd H bn
       ·rw [if_neg Ot] at H
        exact absurd H bn
      ·rw [if_neg TV] at H
       have aaH:decide (iT < (bG.length:Int))=false:=decide_eq_false TV
       clear TV
       obtain rfl:=Option.some.inj H
       go_wp2
       repeat (go_quiet (fail);try go_wp2)
       go_ret
       exact ⟨cZ,oH⟩
end Go.Proofs.YtokpnfljjjjikaaGreatDoor.nX
