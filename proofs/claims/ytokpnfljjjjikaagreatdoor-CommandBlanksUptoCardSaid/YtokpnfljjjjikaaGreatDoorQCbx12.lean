import Derived.Test.YtokpnfljjjjikaaGreatDoorQCbx2
import Derived.Test.YtokpnfljjjjikaaGreatDoorQCbx11
namespace Go.Proofs.YtokpnfljjjjikaaGreatDoor.nK
open Go.RowKit Go.Proofs.aj.bQ Go.Proofs.aj.fR Go.Proofs.aj.cM
attribute [local go_sem] iY iZ ku kA ig ij jc jd
set_option linter.unusedVariables false
set_option linter.unusedSimpArgs false
attribute [local go_sem high] acY
mutual
def aY.j0:Nat→Bool→Int→ByteArray→Bool→List ByteArray→ByteArray→ByteArray→Bool→List (gw)→Int→ByteArray→Bool→List ByteArray→ByteArray→ByteArray→Bool→List (gw)→Option (Bool)
 | 0,_,_,_,_,_,_,_,_,_,_,_,_,_,_,_,_,_ =>none
 |k + 1,x34,IX,IY,IZ,I0,I1,I2,I3,sQ,I4,I5,I6,I7,I8,I9,Ja,uX=>if x34=true then (some false) else (aY.l0 k (sQ.length:Int) 0 IX IY IZ I0 I1 I2 I3 sQ I4 I5 I6 I7 I8 I9 Ja uX)
def aY.l0:Nat→Int→Int→Int→ByteArray→Bool→List ByteArray→ByteArray→ByteArray→Bool→List (gw)→Int→ByteArray→Bool→List ByteArray→ByteArray→ByteArray→Bool→List (gw)→Option (Bool)
 | 0,_,_,_,_,_,_,_,_,_,_,_,_,_,_,_,_,_,_ =>none
 |k + 1,x37,UL,IX,IY,IZ,I0,I1,I2,I3,sQ,I4,I5,I6,I7,I8,I9,Ja,uX=>if UL < x37 then (if 0≤UL then (if UL < (sQ.length:Int) then (if UL < (uX.length:Int) then (if (!((((dw sQ UL).f0).toList) == (((dw uX UL).f0).toList)) || (!((((dw sQ UL).f1).toList) == (((dw uX UL).f1).toList)) || (!(((dw sQ UL).f2) == ((dw uX UL).f2)))))=true then (some false) else (aY.l0 k x37 (wrap64 (UL + 1)) IX IY IZ I0 I1 I2 I3 sQ I4 I5 I6 I7 I8 I9 Ja uX)) else (none)) else (none)) else (none)) else (some true)
end
def aY.f (k:Nat) (aI:Int) (aZ:ByteArray) (bp:Bool) (bX:List ByteArray) (bC:ByteArray) (ck:ByteArray) (cm:Bool) (bO:List (gw)) (fS:Int) (iW:ByteArray) (fW:Bool) (iB:List ByteArray) (fX:ByteArray) (iT:ByteArray) (iU:Bool) (gF:List (gw)):Option (Bool):=if aI=fS then (if aZ.toList=iW.toList then ((bA.f k bp bX bC ck cm fW iB fX iT iU).bind fun t253=>(if t253=true then (aY.j0 k ((bO.length:Int) != (gF.length:Int)) aI aZ bp bX bC ck cm bO fS iW fW iB fX iT iU gF) else (aY.j0 k true aI aZ bp bX bC ck cm bO fS iW fW iB fX iT iU gF))) else (aY.j0 k true aI aZ bp bX bC ck cm bO fS iW fW iB fX iT iU gF)) else (aY.j0 k true aI aZ bp bX bC ck cm bO fS iW fW iB fX iT iU gF)
theorem aY.fJ:∀ k,(∀ y0 y1 y2 y3 y4 y5 y6 y7 y8 y9 Ob UJ y12 y13 y14 y15 y16,cH (aY.j0 k y0 y1 y2 y3 y4 y5 y6 y7 y8 y9 Ob UJ y12 y13 y14 y15 y16) (aY.j0 (k + 1) y0 y1 y2 y3 y4 y5 y6 y7 y8 y9 Ob UJ y12 y13 y14 y15 y16))∧(∀ y0 y1 y2 y3 y4 y5 y6 y7 y8 y9 Ob UJ y12 y13 y14 y15 y16 y17,cH (aY.l0 k y0 y1 y2 y3 y4 y5 y6 y7 y8 y9 Ob UJ y12 y13 y14 y15 y16 y17) (aY.l0 (k + 1) y0 y1 y2 y3 y4 y5 y6 y7 y8 y9 Ob UJ y12 y13 y14 y15 y16 y17))
 | 0=>⟨fun _ _ _ _ _ _ _ _ _ _ _ _ _ _ _ _ _ r h=>by simp [aY.j0] at h,fun _ _ _ _ _ _ _ _ _ _ _ _ _ _ _ _ _ _ r h=>by simp [aY.l0] at h⟩
 |k + 1=>by
  obtain ⟨nP,ih1⟩:=aY.fJ k
  refine ⟨?_,?_⟩
  ·intro y0 y1 y2 y3 y4 y5 y6 y7 y8 y9 Ob UJ y12 y13 y14 y15 y16
   unfold aY.j0
   repeat' first
   |(with_reducible exact nP _ _ _ _ _ _ _ _ _ _ _ _ _ _ _ _ _)
   |(with_reducible exact ih1 _ _ _ _ _ _ _ _ _ _ _ _ _ _ _ _ _ _)
   |(with_reducible exact bA.mono _ _ _ _ _ _ _ _ _ _ _)
   |(with_reducible exact cH.refl _)
   |(with_reducible exact cH.none _)
   |(with_reducible refine cH.ite ?_ ?_)
   |(with_reducible refine cH.bind ?_ (fun _ =>?_))
   |refine cH.ite ?_ ?_
   |refine cH.bind ?_ (fun _ =>?_)
  ·intro y0 y1 y2 y3 y4 y5 y6 y7 y8 y9 Ob UJ y12 y13 y14 y15 y16 y17
   unfold aY.l0
   repeat' first
   |(with_reducible exact nP _ _ _ _ _ _ _ _ _ _ _ _ _ _ _ _ _)
   |(with_reducible exact ih1 _ _ _ _ _ _ _ _ _ _ _ _ _ _ _ _ _ _)
   |(with_reducible exact bA.mono _ _ _ _ _ _ _ _ _ _ _)
   |(with_reducible exact cH.refl _)
   |(with_reducible exact cH.none _)
   |(with_reducible refine cH.ite ?_ ?_)
   |(with_reducible refine cH.bind ?_ (fun _ =>?_))
   |refine cH.ite ?_ ?_
   |refine cH.bind ?_ (fun _ =>?_)
theorem aY.mono:∀ a0 a1 a2 a3 a4 a5 a6 a7 a8 a9 a10 a11 a12 a13 a14 a15 k,cH (aY.f k a0 a1 a2 a3 a4 a5 a6 a7 a8 a9 a10 a11 a12 a13 a14 a15) (aY.f (k + 1) a0 a1 a2 a3 a4 a5 a6 a7 a8 a9 a10 a11 a12 a13 a14 a15):=by
 intro a0 a1 a2 a3 a4 a5 a6 a7 a8 a9 a10 a11 a12 a13 a14 a15 k
 obtain ⟨nP,ih1⟩:=aY.fJ k
 unfold aY.f
 repeat' first
  |(with_reducible exact nP _ _ _ _ _ _ _ _ _ _ _ _ _ _ _ _ _)
  |(with_reducible exact ih1 _ _ _ _ _ _ _ _ _ _ _ _ _ _ _ _ _ _)
  |(with_reducible exact bA.mono _ _ _ _ _ _ _ _ _ _ _)
  |(with_reducible exact cH.refl _)
  |(with_reducible exact cH.none _)
  |(with_reducible refine cH.ite ?_ ?_)
  |(with_reducible refine cH.bind ?_ (fun _ =>?_))
  |refine cH.ite ?_ ?_
  |refine cH.bind ?_ (fun _ =>?_)
set_option maxHeartbeats 8000000 in
set_option maxRecDepth 100000 in
theorem aY.calls (k:Nat) (aI:Int) (aZ:ByteArray) (bp:Bool) (dM:Option Addr) (dN:Nat) (bX:List ByteArray) (bC:ByteArray) (ck:ByteArray) (cm:Bool) (dR:Option Addr) (dO:Nat) (bO:List (gw)) (fS:Int) (iW:ByteArray) (fW:Bool) (nW:Option Addr) (nX:Nat) (iB:List ByteArray) (fX:ByteArray) (iT:ByteArray) (iU:Bool) (nY:Option Addr) (nZ:Nat) (gF:List (gw)) (r:Bool) (w:World) (qF:Kd.C Kd.string w dM bX.length bX) (qG:bX.length≤dN) (qH:Kd.C zN w dR bO.length bO) (qI:bO.length≤dO) (LU:Kd.C Kd.string w nW iB.length iB) (LV:iB.length≤nX) (LW:Kd.C zN w nY gF.length gF) (LX:gF.length≤nZ) (h:aY.f k aI aZ bp bX bC ck cm bO fS iW fW iB fX iT iU gF=some r):
 Calls Tryz.prog 36 #[.agg #[.int .u8 aI,.string aZ,.bool bp,.slice dM bX.length dN,.string bC,.string ck,.bool cm,.slice dR bO.length dO],.agg #[.int .u8 fS,.string iW,.bool fW,.slice nW iB.length nX,.string fX,.string iT,.bool iU,.slice nY gF.length nZ]] w fun e w'=>e= .returned (.bool r)∧Below w.heap.size w w':=by
 have LY:=Tryz.underlying35
 have Oc:=Tryz.underlying32
 have UM:=Tryz.underlying58
 have mH:=ah.mk qF
 have mI:=ah.mk qG
 clear qF qG
 have n7:=ah.mk qH
 have qJ:=ah.mk qI
 clear qH qI
 have CI:=ah.mk LU
 have CJ:=ah.mk LV
 clear LU LV
 have QH:=ah.mk LW
 have ZL:=ah.mk LX
 clear LW LX
 have HB:=ah.mk (Below.refl w.heap.size w)
 have H:(if aI=fS then (if aZ.toList=iW.toList then ((bA.f k bp bX bC ck cm fW iB fX iT iU).bind fun t253=>(if t253=true then (aY.j0 k ((bO.length:Int) != (gF.length:Int)) aI aZ bp bX bC ck cm bO fS iW fW iB fX iT iU gF) else (aY.j0 k true aI aZ bp bX bC ck cm bO fS iW fW iB fX iT iU gF))) else (aY.j0 k true aI aZ bp bX bC ck cm bO fS iW fW iB fX iT iU gF)) else (aY.j0 k true aI aZ bp bX bC ck cm bO fS iW fW iB fX iT iU gF))=some r:=h
 clear h
 have Od:=ah.mk H
 clear H
 go_enter Tryz.func36,Tryz.ntmps36
 go_upto_region 1 with (first|((with_reducible refine cQ (N:=2) rfl ?_);(try (refine dS (by rfl) ?_;dsimp only));refine cE ?hg (N:=2) ?hd (cs:=#[.int .u8 aI,.string aZ,.bool bp,.slice dM bX.length dN,.string bC,.string ck,.bool cm,.slice dR bO.length dO]) (t:=35) ?hr ?_;(case hd=>rfl);(case hg=>rfl);(case hr=>first|(go_simp;done)|(go_simp;rfl));intro dH hg w4 cY hb;have bL:=ah.mk (aC cw hb);have bS:=ah.mk (cY);have cG:=ah.mk ((dQ:w.heap.size≤dH));have dA:=ah.mk ((dQ:w.heap.size≤dH));clear HB;have HB:=bL;have b9:=bS;have ZM:=cG;have Lm:=dA;clear bL bS cG dA;clear hb cY hg)|((with_reducible refine cQ (N:=3) rfl ?_);(try (refine dS (by rfl) ?_;dsimp only));refine cE ?hg (N:=3) ?hd (cs:=#[.int .u8 fS,.string iW,.bool fW,.slice nW iB.length nX,.string fX,.string iT,.bool iU,.slice nY gF.length nZ]) (t:=35) ?hr ?_;(case hd=>rfl);(case hg=>rfl);(case hr=>first|(go_simp;done)|(go_simp;rfl));intro dX hg w5 cY hb;have bL:=ah.mk (aX (g:=dH) (o:= .cells #[.int .u8 aI,.string aZ,.bool bp,.slice dM bX.length dN,.string bC,.string ck,.bool cm,.slice dR bO.length dO] 35 (0,0)) ou hb);have bS:=ah.mk (aC NF hb);have cG:=ah.mk (cY);have dA:=ah.mk ((BI:w.heap.size≤dX));have mG:=ah.mk ((BI:w.heap.size≤dX));have rS:=ah.mk ((NJ:dH≠dX));have sL:=ah.mk ((NK:dX≠dH));clear b9;clear HB;have b9:=bL;have HB:=bS;have cA:=cG;have ZN:=dA;have TZ:=mG;have nB:=rS;have nC:=sL;clear bL bS cG dA mG rS sL;clear hb cY hg))
 repeat (go_quiet (first|((with_reducible refine cQ (N:=2) rfl ?_);(try (refine dS (by rfl) ?_;dsimp only));refine cE ?hg (N:=2) ?hd (cs:=#[.int .u8 aI,.string aZ,.bool bp,.slice dM bX.length dN,.string bC,.string ck,.bool cm,.slice dR bO.length dO]) (t:=35) ?hr ?_;(case hd=>rfl);(case hg=>rfl);(case hr=>first|(go_simp;done)|(go_simp;rfl));intro dH hg w4 cY hb;have bL:=ah.mk (aC cw hb);have bS:=ah.mk (cY);have cG:=ah.mk ((dQ:w.heap.size≤dH));have dA:=ah.mk ((dQ:w.heap.size≤dH));clear HB;have HB:=bL;have b9:=bS;have ZM:=cG;have Lm:=dA;clear bL bS cG dA;clear hb cY hg)|((with_reducible refine cQ (N:=3) rfl ?_);(try (refine dS (by rfl) ?_;dsimp only));refine cE ?hg (N:=3) ?hd (cs:=#[.int .u8 fS,.string iW,.bool fW,.slice nW iB.length nX,.string fX,.string iT,.bool iU,.slice nY gF.length nZ]) (t:=35) ?hr ?_;(case hd=>rfl);(case hg=>rfl);(case hr=>first|(go_simp;done)|(go_simp;rfl));intro dX hg w5 cY hb;have bL:=ah.mk (aX (g:=dH) (o:= .cells #[.int .u8 aI,.string aZ,.bool bp,.slice dM bX.length dN,.string bC,.string ck,.bool cm,.slice dR bO.length dO] 35 (0,0)) ou hb);have bS:=ah.mk (aC NF hb);have cG:=ah.mk (cY);have dA:=ah.mk ((BI:w.heap.size≤dX));have mG:=ah.mk ((BI:w.heap.size≤dX));have rS:=ah.mk ((NJ:dH≠dX));have sL:=ah.mk ((NK:dX≠dH));clear b9;clear HB;have b9:=bL;have HB:=bS;have cA:=cG;have ZN:=dA;have TZ:=mG;have nB:=rS;have nC:=sL;clear bL bS cG dA mG rS sL;clear hb cY hg));go_upto_region 1 with (first|((with_reducible refine cQ (N:=2) rfl ?_);(try (refine dS (by rfl) ?_;dsimp only));refine cE ?hg (N:=2) ?hd (cs:=#[.int .u8 aI,.string aZ,.bool bp,.slice dM bX.length dN,.string bC,.string ck,.bool cm,.slice dR bO.length dO]) (t:=35) ?hr ?_;(case hd=>rfl);(case hg=>rfl);(case hr=>first|(go_simp;done)|(go_simp;rfl));intro dH hg w4 cY hb;have bL:=ah.mk (aC cw hb);have bS:=ah.mk (cY);have cG:=ah.mk ((dQ:w.heap.size≤dH));have dA:=ah.mk ((dQ:w.heap.size≤dH));clear HB;have HB:=bL;have b9:=bS;have ZM:=cG;have Lm:=dA;clear bL bS cG dA;clear hb cY hg)|((with_reducible refine cQ (N:=3) rfl ?_);(try (refine dS (by rfl) ?_;dsimp only));refine cE ?hg (N:=3) ?hd (cs:=#[.int .u8 fS,.string iW,.bool fW,.slice nW iB.length nX,.string fX,.string iT,.bool iU,.slice nY gF.length nZ]) (t:=35) ?hr ?_;(case hd=>rfl);(case hg=>rfl);(case hr=>first|(go_simp;done)|(go_simp;rfl));intro dX hg w5 cY hb;have bL:=ah.mk (aX (g:=dH) (o:= .cells #[.int .u8 aI,.string aZ,.bool bp,.slice dM bX.length dN,.string bC,.string ck,.bool cm,.slice dR bO.length dO] 35 (0,0)) ou hb);have bS:=ah.mk (aC NF hb);have cG:=ah.mk (cY);have dA:=ah.mk ((BI:w.heap.size≤dX));have mG:=ah.mk ((BI:w.heap.size≤dX));have rS:=ah.mk ((NJ:dH≠dX));have sL:=ah.mk ((NK:dX≠dH));clear b9;clear HB;have b9:=bL;have HB:=bS;have cA:=cG;have ZN:=dA;have TZ:=mG;have nB:=rS;have nC:=sL;clear bL bS cG dA mG rS sL;clear hb cY hg)))
 (try simp only [Act.put,List.setIfInBounds_toArray,List.set_cons_zero,List.set_cons_succ])
 go_cut [34] (fun v34 wc=>∃ (kq:Nat) (QI:Bool),v34= .bool QI∧ah (aY.j0 kq QI aI aZ bp bX bC ck cm bO fS iW fW iB fX iT iU gF=some r)∧ah (kq≤k)∧ah (wc.heap[dH]? =some (.cells #[.int .u8 aI,.string aZ,.bool bp,(.slice dM bX.length dN),.string bC,.string ck,.bool cm,(.slice dR bO.length dO)] 35 (0,0)))∧ah (wc.heap[dX]? =some (.cells #[.int .u8 fS,.string iW,.bool fW,(.slice nW iB.length nX),.string fX,.string iT,.bool iU,(.slice nY gF.length nZ)] 35 (0,0)))∧ah (Below w.heap.size w wc))
 case first=>
  have H:=Od.out
  clear Od
  by_cases c6:aI=fS
  ·rw [if_pos c6] at H
   have pP:(aI == fS)=true:=beq_iff_eq.mpr c6
   have BU:(aI != fS)=false:=bne_eq_false_iff_eq.mpr c6
   clear c6
   (first|rw [pP]|(simp only [cR,cW];rw [pP])|skip)
   by_cases c7:aZ.toList=iW.toList
   ·rw [if_pos c7] at H
    have wU:(aZ.toList == iW.toList)=true:=beq_iff_eq.mpr c7
    have Gg:(aZ.toList != iW.toList)=false:=bne_eq_false_iff_eq.mpr c7
    clear c7
    replace H:=Option.bind_eq_some_iff.mp H
    obtain ⟨t253,A80,H⟩:=H
    replace H:(if t253=true then (aY.j0 k ((bO.length:Int) != (gF.length:Int)) aI aZ bp bX bC ck cm bO fS iW fW iB fX iT iU gF) else (aY.j0 k true aI aZ bp bX bC ck cm bO fS iW fW iB fX iT iU gF))=some r:=H
    have A8:=ah.mk A80
    clear A80
    by_cases c9:t253=true
    ·subst c9
     have H1:(aY.j0 k ((bO.length:Int) != (gF.length:Int)) aI aZ bp bX bC ck cm bO fS iW fW iB fX iT iU gF)=some r:=by rw [if_pos rfl] at H;exact H
     clear H
     have H:=H1
     clear H1
     have H':=ah.mk H
     clear H
     have ac3:=nB.out
     have ac4:=nC.out
     have sS:w5.cell? ⟨dH,0,none⟩=some (.int .u8 aI):=(af b9.out 0).trans rfl
     have sU:w5.cell? ⟨dH,1,none⟩=some (.string aZ):=(af b9.out 1).trans rfl
     have sV:w5.cell? ⟨dH,2,none⟩=some (.bool bp):=(af b9.out 2).trans rfl
     have xO:w5.cell? ⟨dH,3,none⟩=some (.slice dM bX.length dN):=(af b9.out 3).trans rfl
     have xP:w5.cell? ⟨dH,4,none⟩=some (.string bC):=(af b9.out 4).trans rfl
     have Aj:w5.cell? ⟨dH,5,none⟩=some (.string ck):=(af b9.out 5).trans rfl
     have Ak:w5.cell? ⟨dH,6,none⟩=some (.bool cm):=(af b9.out 6).trans rfl
     have Al:w5.cell? ⟨dH,7,none⟩=some (.slice dR bO.length dO):=(af b9.out 7).trans rfl
     have sW:=aa b9.out 0
     have sX:=aa b9.out 1
     have sY:=aa b9.out 2
     have xQ:=aa b9.out 3
     have xR:=aa b9.out 4
     have Am:=aa b9.out 5
     have Ao:=aa b9.out 6
     have Ap:=aa b9.out 7
     have uF:w5.cell? ⟨dX,0,none⟩=some (.int .u8 fS):=(af cA.out 0).trans rfl
     have uG:w5.cell? ⟨dX,1,none⟩=some (.string iW):=(af cA.out 1).trans rfl
     have xI:w5.cell? ⟨dX,2,none⟩=some (.bool fW):=(af cA.out 2).trans rfl
     have Ad:w5.cell? ⟨dX,3,none⟩=some (.slice nW iB.length nX):=(af cA.out 3).trans rfl
     have Ae:w5.cell? ⟨dX,4,none⟩=some (.string fX):=(af cA.out 4).trans rfl
     have QJ:w5.cell? ⟨dX,5,none⟩=some (.string iT):=(af cA.out 5).trans rfl
     have QK:w5.cell? ⟨dX,6,none⟩=some (.bool iU):=(af cA.out 6).trans rfl
     have QL:w5.cell? ⟨dX,7,none⟩=some (.slice nY gF.length nZ):=(af cA.out 7).trans rfl
     have uH:=aa cA.out 0
     have uI:=aa cA.out 1
     have xJ:=aa cA.out 2
     have Af:=aa cA.out 3
     have Ag:=aa cA.out 4
     have QM:=aa cA.out 5
     have QN:=aa cA.out 6
     have QO:=aa cA.out 7
     go_wp2_with (first|(go_at_call 18;(with_reducible refine (bA.calls k bp _ _ bX bC ck cm fW _ _ iB fX iT iU true _ ?aW ?bY ?eO ?gP A8.out).mono ?_);(case aW=>repeat (first|exact (Kd.eF mH.out HB.out)|(with_reducible refine Kd.dZ ?_ _)|(with_reducible refine Kd.eo ?_ _)|(with_reducible refine Kd.eZ ?_)));(case bY=>exact mI.out);(case eO=>repeat (first|exact (Kd.eF CI.out HB.out)|(with_reducible refine Kd.dZ ?_ _)|(with_reducible refine Kd.eo ?_ _)|(with_reducible refine Kd.eZ ?_)));(case gP=>exact CJ.out);rintro e nj ⟨rfl,hb⟩;have bL:=ah.mk (aX (g:=dH) (o:= .cells #[.int .u8 aI,.string aZ,.bool bp,.slice dM bX.length dN,.string bC,.string ck,.bool cm,.slice dR bO.length dO] 35 (0,0)) ou hb);have bS:=ah.mk (aX (g:=dX) (o:= .cells #[.int .u8 fS,.string iW,.bool fW,.slice nW iB.length nX,.string fX,.string iT,.bool iU,.slice nY gF.length nZ] 35 (0,0)) q8 hb);have cG:=ah.mk (aC ot hb);clear b9;clear cA;clear HB;have b9:=bL;have cA:=bS;have HB:=cG;clear bL bS cG;(try clear hb);(try clear hb2);(try clear hk);(try clear hi);have sZ:nj.cell? ⟨dH,0,none⟩=some (.int .u8 aI):=(af b9.out 0).trans rfl;have s7:nj.cell? ⟨dH,1,none⟩=some (.string aZ):=(af b9.out 1).trans rfl;have uY:nj.cell? ⟨dH,2,none⟩=some (.bool bp):=(af b9.out 2).trans rfl;have uZ:nj.cell? ⟨dH,3,none⟩=some (.slice dM bX.length dN):=(af b9.out 3).trans rfl;have u7:nj.cell? ⟨dH,4,none⟩=some (.string bC):=(af b9.out 4).trans rfl;have u9:nj.cell? ⟨dH,5,none⟩=some (.string ck):=(af b9.out 5).trans rfl;have vk:nj.cell? ⟨dH,6,none⟩=some (.bool cm):=(af b9.out 6).trans rfl;have vo:nj.cell? ⟨dH,7,none⟩=some (.slice dR bO.length dO):=(af b9.out 7).trans rfl;have s8:=aa b9.out 0;have s9:=aa b9.out 1;have vq:=aa b9.out 2;have vv:=aa b9.out 3;have vw:=aa b9.out 4;have vA:=aa b9.out 5;have vB:=aa b9.out 6;have vC:=aa b9.out 7;have uL:nj.cell? ⟨dX,0,none⟩=some (.int .u8 fS):=(af cA.out 0).trans rfl;have uM:nj.cell? ⟨dX,1,none⟩=some (.string iW):=(af cA.out 1).trans rfl;have uN:nj.cell? ⟨dX,2,none⟩=some (.bool fW):=(af cA.out 2).trans rfl;have uO:nj.cell? ⟨dX,3,none⟩=some (.slice nW iB.length nX):=(af cA.out 3).trans rfl;have uP:nj.cell? ⟨dX,4,none⟩=some (.string fX):=(af cA.out 4).trans rfl;have DY:nj.cell? ⟨dX,5,none⟩=some (.string iT):=(af cA.out 5).trans rfl;have DZ:nj.cell? ⟨dX,6,none⟩=some (.bool iU):=(af cA.out 6).trans rfl;have D2:nj.cell? ⟨dX,7,none⟩=some (.slice nY gF.length nZ):=(af cA.out 7).trans rfl;have uQ:=aa cA.out 0;have uR:=aa cA.out 1;have uS:=aa cA.out 2;have uT:=aa cA.out 3;have uU:=aa cA.out 4;have D3:=aa cA.out 5;have D4:=aa cA.out 6;have D5:=aa cA.out 7))
     repeat (go_quiet (first|(go_at_call 18;(with_reducible refine (bA.calls k bp _ _ bX bC ck cm fW _ _ iB fX iT iU true _ ?aW ?bY ?eO ?gP A8.out).mono ?_);(case aW=>repeat (first|exact (Kd.eF mH.out HB.out)|(with_reducible refine Kd.dZ ?_ _)|(with_reducible refine Kd.eo ?_ _)|(with_reducible refine Kd.eZ ?_)));(case bY=>exact mI.out);(case eO=>repeat (first|exact (Kd.eF CI.out HB.out)|(with_reducible refine Kd.dZ ?_ _)|(with_reducible refine Kd.eo ?_ _)|(with_reducible refine Kd.eZ ?_)));(case gP=>exact CJ.out);rintro e nj ⟨rfl,hb⟩;have bL:=ah.mk (aX (g:=dH) (o:= .cells #[.int .u8 aI,.string aZ,.bool bp,.slice dM bX.length dN,.string bC,.string ck,.bool cm,.slice dR bO.length dO] 35 (0,0)) ou hb);have bS:=ah.mk (aX (g:=dX) (o:= .cells #[.int .u8 fS,.string iW,.bool fW,.slice nW iB.length nX,.string fX,.string iT,.bool iU,.slice nY gF.length nZ] 35 (0,0)) q8 hb);have cG:=ah.mk (aC ot hb);clear b9;clear cA;clear HB;have b9:=bL;have cA:=bS;have HB:=cG;clear bL bS cG;(try clear hb);(try clear hb2);(try clear hk);(try clear hi);have sZ:nj.cell? ⟨dH,0,none⟩=some (.int .u8 aI):=(af b9.out 0).trans rfl;have s7:nj.cell? ⟨dH,1,none⟩=some (.string aZ):=(af b9.out 1).trans rfl;have uY:nj.cell? ⟨dH,2,none⟩=some (.bool bp):=(af b9.out 2).trans rfl;have uZ:nj.cell? ⟨dH,3,none⟩=some (.slice dM bX.length dN):=(af b9.out 3).trans rfl;have u7:nj.cell? ⟨dH,4,none⟩=some (.string bC):=(af b9.out 4).trans rfl;have u9:nj.cell? ⟨dH,5,none⟩=some (.string ck):=(af b9.out 5).trans rfl;have vk:nj.cell? ⟨dH,6,none⟩=some (.bool cm):=(af b9.out 6).trans rfl;have vo:nj.cell? ⟨dH,7,none⟩=some (.slice dR bO.length dO):=(af b9.out 7).trans rfl;have s8:=aa b9.out 0;have s9:=aa b9.out 1;have vq:=aa b9.out 2;have vv:=aa b9.out 3;have vw:=aa b9.out 4;have vA:=aa b9.out 5;have vB:=aa b9.out 6;have vC:=aa b9.out 7;have uL:nj.cell? ⟨dX,0,none⟩=some (.int .u8 fS):=(af cA.out 0).trans rfl;have uM:nj.cell? ⟨dX,1,none⟩=some (.string iW):=(af cA.out 1).trans rfl;have uN:nj.cell? ⟨dX,2,none⟩=some (.bool fW):=(af cA.out 2).trans rfl;have uO:nj.cell? ⟨dX,3,none⟩=some (.slice nW iB.length nX):=(af cA.out 3).trans rfl;have uP:nj.cell? ⟨dX,4,none⟩=some (.string fX):=(af cA.out 4).trans rfl;have DY:nj.cell? ⟨dX,5,none⟩=some (.string iT):=(af cA.out 5).trans rfl;have DZ:nj.cell? ⟨dX,6,none⟩=some (.bool iU):=(af cA.out 6).trans rfl;have D2:nj.cell? ⟨dX,7,none⟩=some (.slice nY gF.length nZ):=(af cA.out 7).trans rfl;have uQ:=aa cA.out 0;have uR:=aa cA.out 1;have uS:=aa cA.out 2;have uT:=aa cA.out 3;have uU:=aa cA.out 4;have D3:=aa cA.out 5;have D4:=aa cA.out 6;have D5:=aa cA.out 7));try go_wp2_with (first|(go_at_call 18;(with_reducible refine (bA.calls k bp _ _ bX bC ck cm fW _ _ iB fX iT iU true _ ?aW ?bY ?eO ?gP A8.out).mono ?_);(case aW=>repeat (first|exact (Kd.eF mH.out HB.out)|(with_reducible refine Kd.dZ ?_ _)|(with_reducible refine Kd.eo ?_ _)|(with_reducible refine Kd.eZ ?_)));(case bY=>exact mI.out);(case eO=>repeat (first|exact (Kd.eF CI.out HB.out)|(with_reducible refine Kd.dZ ?_ _)|(with_reducible refine Kd.eo ?_ _)|(with_reducible refine Kd.eZ ?_)));(case gP=>exact CJ.out);rintro e nj ⟨rfl,hb⟩;have bL:=ah.mk (aX (g:=dH) (o:= .cells #[.int .u8 aI,.string aZ,.bool bp,.slice dM bX.length dN,.string bC,.string ck,.bool cm,.slice dR bO.length dO] 35 (0,0)) ou hb);have bS:=ah.mk (aX (g:=dX) (o:= .cells #[.int .u8 fS,.string iW,.bool fW,.slice nW iB.length nX,.string fX,.string iT,.bool iU,.slice nY gF.length nZ] 35 (0,0)) q8 hb);have cG:=ah.mk (aC ot hb);clear b9;clear cA;clear HB;have b9:=bL;have cA:=bS;have HB:=cG;clear bL bS cG;(try clear hb);(try clear hb2);(try clear hk);(try clear hi);have sZ:nj.cell? ⟨dH,0,none⟩=some (.int .u8 aI):=(af b9.out 0).trans rfl;have s7:nj.cell? ⟨dH,1,none⟩=some (.string aZ):=(af b9.out 1).trans rfl;have uY:nj.cell? ⟨dH,2,none⟩=some (.bool bp):=(af b9.out 2).trans rfl;have uZ:nj.cell? ⟨dH,3,none⟩=some (.slice dM bX.length dN):=(af b9.out 3).trans rfl;have u7:nj.cell? ⟨dH,4,none⟩=some (.string bC):=(af b9.out 4).trans rfl;have u9:nj.cell? ⟨dH,5,none⟩=some (.string ck):=(af b9.out 5).trans rfl;have vk:nj.cell? ⟨dH,6,none⟩=some (.bool cm):=(af b9.out 6).trans rfl;have vo:nj.cell? ⟨dH,7,none⟩=some (.slice dR bO.length dO):=(af b9.out 7).trans rfl;have s8:=aa b9.out 0;have s9:=aa b9.out 1;have vq:=aa b9.out 2;have vv:=aa b9.out 3;have vw:=aa b9.out 4;have vA:=aa b9.out 5;have vB:=aa b9.out 6;have vC:=aa b9.out 7;have uL:nj.cell? ⟨dX,0,none⟩=some (.int .u8 fS):=(af cA.out 0).trans rfl;have uM:nj.cell? ⟨dX,1,none⟩=some (.string iW):=(af cA.out 1).trans rfl;have uN:nj.cell? ⟨dX,2,none⟩=some (.bool fW):=(af cA.out 2).trans rfl;have uO:nj.cell? ⟨dX,3,none⟩=some (.slice nW iB.length nX):=(af cA.out 3).trans rfl;have uP:nj.cell? ⟨dX,4,none⟩=some (.string fX):=(af cA.out 4).trans rfl;have DY:nj.cell? ⟨dX,5,none⟩=some (.string iT):=(af cA.out 5).trans rfl;have DZ:nj.cell? ⟨dX,6,none⟩=some (.bool iU):=(af cA.out 6).trans rfl;have D2:nj.cell? ⟨dX,7,none⟩=some (.slice nY gF.length nZ):=(af cA.out 7).trans rfl;have uQ:=aa cA.out 0;have uR:=aa cA.out 1;have uS:=aa cA.out 2;have uT:=aa cA.out 3;have uU:=aa cA.out 4;have D3:=aa cA.out 5;have D4:=aa cA.out 6;have D5:=aa cA.out 7)))
     go_meet
     case rel=>exact ⟨_,(((bO.length:Int) != (gF.length:Int))),dG,H',⟨mJ⟩,⟨ou⟩,⟨q8⟩,⟨ot⟩⟩
    ·replace c9:=Bool.eq_false_iff.mpr c9
     subst c9
     have H1:(aY.j0 k true aI aZ bp bX bC ck cm bO fS iW fW iB fX iT iU gF)=some r:=by rw [if_neg (show ¬ (false=true) by decide)] at H;exact H
     clear H
     have H:=H1
     clear H1
     have H':=ah.mk H
     clear H
     have ajC:=nB.out
     have ajD:=nC.out
     have sH:w5.cell? ⟨dH,0,none⟩=some (.int .u8 aI):=(af b9.out 0).trans rfl
     have sI:w5.cell? ⟨dH,1,none⟩=some (.string aZ):=(af b9.out 1).trans rfl
     have Aq:w5.cell? ⟨dH,2,none⟩=some (.bool bp):=(af b9.out 2).trans rfl
     have Jb:w5.cell? ⟨dH,3,none⟩=some (.slice dM bX.length dN):=(af b9.out 3).trans rfl
     have Jc:w5.cell? ⟨dH,4,none⟩=some (.string bC):=(af b9.out 4).trans rfl
     have Jd:w5.cell? ⟨dH,5,none⟩=some (.string ck):=(af b9.out 5).trans rfl
     have Je:w5.cell? ⟨dH,6,none⟩=some (.bool cm):=(af b9.out 6).trans rfl
     have Jf:w5.cell? ⟨dH,7,none⟩=some (.slice dR bO.length dO):=(af b9.out 7).trans rfl
     have sJ:=aa b9.out 0
     have sK:=aa b9.out 1
     have Ar:=aa b9.out 2
     have Jg:=aa b9.out 3
     have Jh:=aa b9.out 4
     have Ji:=aa b9.out 5
     have Jj:=aa b9.out 6
     have Jk:=aa b9.out 7
     have xS:w5.cell? ⟨dX,0,none⟩=some (.int .u8 fS):=(af cA.out 0).trans rfl
     have xU:w5.cell? ⟨dX,1,none⟩=some (.string iW):=(af cA.out 1).trans rfl
     have Au:w5.cell? ⟨dX,2,none⟩=some (.bool fW):=(af cA.out 2).trans rfl
     have Jl:w5.cell? ⟨dX,3,none⟩=some (.slice nW iB.length nX):=(af cA.out 3).trans rfl
     have Jm:w5.cell? ⟨dX,4,none⟩=some (.string fX):=(af cA.out 4).trans rfl
     have QS:w5.cell? ⟨dX,5,none⟩=some (.string iT):=(af cA.out 5).trans rfl
     have QT:w5.cell? ⟨dX,6,none⟩=some (.bool iU):=(af cA.out 6).trans rfl
     have QU:w5.cell? ⟨dX,7,none⟩=some (.slice nY gF.length nZ):=(af cA.out 7).trans rfl
     have xV:=aa cA.out 0
     have xW:=aa cA.out 1
     have Av:=aa cA.out 2
     have Jn:=aa cA.out 3
     have Jo:=aa cA.out 4
     have QV:=aa cA.out 5
     have QW:=aa cA.out 6
     have QX:=aa cA.out 7
     go_wp2_with (first|(go_at_call 18;(with_reducible refine (bA.calls k bp _ _ bX bC ck cm fW _ _ iB fX iT iU false _ ?aW ?bY ?eO ?gP A8.out).mono ?_);(case aW=>repeat (first|exact (Kd.eF mH.out HB.out)|(with_reducible refine Kd.dZ ?_ _)|(with_reducible refine Kd.eo ?_ _)|(with_reducible refine Kd.eZ ?_)));(case bY=>exact mI.out);(case eO=>repeat (first|exact (Kd.eF CI.out HB.out)|(with_reducible refine Kd.dZ ?_ _)|(with_reducible refine Kd.eo ?_ _)|(with_reducible refine Kd.eZ ?_)));(case gP=>exact CJ.out);rintro e LZ ⟨rfl,hb⟩;have bL:=ah.mk (aX (g:=dH) (o:= .cells #[.int .u8 aI,.string aZ,.bool bp,.slice dM bX.length dN,.string bC,.string ck,.bool cm,.slice dR bO.length dO] 35 (0,0)) ou hb);have bS:=ah.mk (aX (g:=dX) (o:= .cells #[.int .u8 fS,.string iW,.bool fW,.slice nW iB.length nX,.string fX,.string iT,.bool iU,.slice nY gF.length nZ] 35 (0,0)) q8 hb);have cG:=ah.mk (aC ot hb);clear b9;clear cA;clear HB;have b9:=bL;have cA:=bS;have HB:=cG;clear bL bS cG;(try clear hb);(try clear hb2);(try clear hk);(try clear hi)))
     repeat (go_quiet (first|(go_at_call 18;(with_reducible refine (bA.calls k bp _ _ bX bC ck cm fW _ _ iB fX iT iU false _ ?aW ?bY ?eO ?gP A8.out).mono ?_);(case aW=>repeat (first|exact (Kd.eF mH.out HB.out)|(with_reducible refine Kd.dZ ?_ _)|(with_reducible refine Kd.eo ?_ _)|(with_reducible refine Kd.eZ ?_)));(case bY=>exact mI.out);(case eO=>repeat (first|exact (Kd.eF CI.out HB.out)|(with_reducible refine Kd.dZ ?_ _)|(with_reducible refine Kd.eo ?_ _)|(with_reducible refine Kd.eZ ?_)));(case gP=>exact CJ.out);rintro e LZ ⟨rfl,hb⟩;have bL:=ah.mk (aX (g:=dH) (o:= .cells #[.int .u8 aI,.string aZ,.bool bp,.slice dM bX.length dN,.string bC,.string ck,.bool cm,.slice dR bO.length dO] 35 (0,0)) ou hb);have bS:=ah.mk (aX (g:=dX) (o:= .cells #[.int .u8 fS,.string iW,.bool fW,.slice nW iB.length nX,.string fX,.string iT,.bool iU,.slice nY gF.length nZ] 35 (0,0)) q8 hb);have cG:=ah.mk (aC ot hb);clear b9;clear cA;clear HB;have b9:=bL;have cA:=bS;have HB:=cG;clear bL bS cG;(try clear hb);(try clear hb2);(try clear hk);(try clear hi)));try go_wp2_with (first|(go_at_call 18;(with_reducible refine (bA.calls k bp _ _ bX bC ck cm fW _ _ iB fX iT iU false _ ?aW ?bY ?eO ?gP A8.out).mono ?_);(case aW=>repeat (first|exact (Kd.eF mH.out HB.out)|(with_reducible refine Kd.dZ ?_ _)|(with_reducible refine Kd.eo ?_ _)|(with_reducible refine Kd.eZ ?_)));(case bY=>exact mI.out);(case eO=>repeat (first|exact (Kd.eF CI.out HB.out)|(with_reducible refine Kd.dZ ?_ _)|(with_reducible refine Kd.eo ?_ _)|(with_reducible refine Kd.eZ ?_)));(case gP=>exact CJ.out);rintro e LZ ⟨rfl,hb⟩;have bL:=ah.mk (aX (g:=dH) (o:= .cells #[.int .u8 aI,.string aZ,.bool bp,.slice dM bX.length dN,.string bC,.string ck,.bool cm,.slice dR bO.length dO] 35 (0,0)) ou hb);have bS:=ah.mk (aX (g:=dX) (o:= .cells #[.int .u8 fS,.string iW,.bool fW,.slice nW iB.length nX,.string fX,.string iT,.bool iU,.slice nY gF.length nZ] 35 (0,0)) q8 hb);have cG:=ah.mk (aC ot hb);clear b9;clear cA;clear HB;have b9:=bL;have cA:=bS;have HB:=cG;clear bL bS cG;(try clear hb);(try clear hb2);(try clear hk);(try clear hi))))
     go_meet
     case rel=>exact ⟨_,(true),dG,H',⟨mJ⟩,⟨ou⟩,⟨q8⟩,⟨ot⟩⟩
   ·rw [if_neg c7] at H
    have wU:(aZ.toList == iW.toList)=false:=beq_eq_false_iff_ne.mpr c7
    have Gg:(aZ.toList != iW.toList)=true:=bne_iff_ne.mpr c7
    have H':=ah.mk H
    clear H
    have ajE:=nB.out
    have ajF:=nC.out
    have xX:w5.cell? ⟨dH,0,none⟩=some (.int .u8 aI):=(af b9.out 0).trans rfl
    have xY:w5.cell? ⟨dH,1,none⟩=some (.string aZ):=(af b9.out 1).trans rfl
    have xZ:w5.cell? ⟨dH,2,none⟩=some (.bool bp):=(af b9.out 2).trans rfl
    have D6:w5.cell? ⟨dH,3,none⟩=some (.slice dM bX.length dN):=(af b9.out 3).trans rfl
    have D7:w5.cell? ⟨dH,4,none⟩=some (.string bC):=(af b9.out 4).trans rfl
    have Jp:w5.cell? ⟨dH,5,none⟩=some (.string ck):=(af b9.out 5).trans rfl
    have Jq:w5.cell? ⟨dH,6,none⟩=some (.bool cm):=(af b9.out 6).trans rfl
    have Jr:w5.cell? ⟨dH,7,none⟩=some (.slice dR bO.length dO):=(af b9.out 7).trans rfl
    have ya:=aa b9.out 0
    have yc:=aa b9.out 1
    have yf:=aa b9.out 2
    have D8:=aa b9.out 3
    have D9:=aa b9.out 4
    have Js:=aa b9.out 5
    have Jt:=aa b9.out 6
    have Ju:=aa b9.out 7
    have yg:w5.cell? ⟨dX,0,none⟩=some (.int .u8 fS):=(af cA.out 0).trans rfl
    have yh:w5.cell? ⟨dX,1,none⟩=some (.string iW):=(af cA.out 1).trans rfl
    have Aw:w5.cell? ⟨dX,2,none⟩=some (.bool fW):=(af cA.out 2).trans rfl
    have Jv:w5.cell? ⟨dX,3,none⟩=some (.slice nW iB.length nX):=(af cA.out 3).trans rfl
    have Jw:w5.cell? ⟨dX,4,none⟩=some (.string fX):=(af cA.out 4).trans rfl
    have QY:w5.cell? ⟨dX,5,none⟩=some (.string iT):=(af cA.out 5).trans rfl
    have QZ:w5.cell? ⟨dX,6,none⟩=some (.bool iU):=(af cA.out 6).trans rfl
    have Q0:w5.cell? ⟨dX,7,none⟩=some (.slice nY gF.length nZ):=(af cA.out 7).trans rfl
    have yj:=aa cA.out 0
    have yl:=aa cA.out 1
    have Ax:=aa cA.out 2
    have Jx:=aa cA.out 3
    have Jy:=aa cA.out 4
    have Q3:=aa cA.out 5
    have Q4:=aa cA.out 6
    have Q5:=aa cA.out 7
    go_wp2
    repeat (go_quiet (fail);try go_wp2)
    go_meet
    case rel=>exact ⟨_,(true),dG,H',⟨mJ⟩,⟨ou⟩,⟨q8⟩,⟨ot⟩⟩
  ·rw [if_neg c6] at H
   have pP:(aI == fS)=false:=beq_eq_false_iff_ne.mpr c6
   have BU:(aI != fS)=true:=bne_iff_ne.mpr c6
   (first|rw [pP]|(simp only [cR,cW];rw [pP])|skip)
   have H':=ah.mk H
   clear H
   have ac5:=nB.out
   have ac6:=nC.out
   have ym:w5.cell? ⟨dH,0,none⟩=some (.int .u8 aI):=(af b9.out 0).trans rfl
   have yq:w5.cell? ⟨dH,1,none⟩=some (.string aZ):=(af b9.out 1).trans rfl
   have Jz:w5.cell? ⟨dH,2,none⟩=some (.bool bp):=(af b9.out 2).trans rfl
   have JA:w5.cell? ⟨dH,3,none⟩=some (.slice dM bX.length dN):=(af b9.out 3).trans rfl
   have JB:w5.cell? ⟨dH,4,none⟩=some (.string bC):=(af b9.out 4).trans rfl
   have JC:w5.cell? ⟨dH,5,none⟩=some (.string ck):=(af b9.out 5).trans rfl
   have JD:w5.cell? ⟨dH,6,none⟩=some (.bool cm):=(af b9.out 6).trans rfl
   have JE:w5.cell? ⟨dH,7,none⟩=some (.slice dR bO.length dO):=(af b9.out 7).trans rfl
   have yt:=aa b9.out 0
   have yu:=aa b9.out 1
   have JF:=aa b9.out 2
   have JG:=aa b9.out 3
   have JH:=aa b9.out 4
   have JI:=aa b9.out 5
   have JJ:=aa b9.out 6
   have JK:=aa b9.out 7
   have td:w5.cell? ⟨dX,0,none⟩=some (.int .u8 fS):=(af cA.out 0).trans rfl
   have tj:w5.cell? ⟨dX,1,none⟩=some (.string iW):=(af cA.out 1).trans rfl
   have tq:w5.cell? ⟨dX,2,none⟩=some (.bool fW):=(af cA.out 2).trans rfl
   have yw:w5.cell? ⟨dX,3,none⟩=some (.slice nW iB.length nX):=(af cA.out 3).trans rfl
   have yx:w5.cell? ⟨dX,4,none⟩=some (.string fX):=(af cA.out 4).trans rfl
   have Q6:w5.cell? ⟨dX,5,none⟩=some (.string iT):=(af cA.out 5).trans rfl
   have Q7:w5.cell? ⟨dX,6,none⟩=some (.bool iU):=(af cA.out 6).trans rfl
   have Q8:w5.cell? ⟨dX,7,none⟩=some (.slice nY gF.length nZ):=(af cA.out 7).trans rfl
   have tu:=aa cA.out 0
   have tv:=aa cA.out 1
   have tA:=aa cA.out 2
   have yz:=aa cA.out 3
   have yA:=aa cA.out 4
   have Q9:=aa cA.out 5
   have Ra:=aa cA.out 6
   have Rb:=aa cA.out 7
   go_wp2
   repeat (go_quiet (fail);try go_wp2)
   go_meet
   case rel=>exact ⟨_,(true),dG,H',⟨mJ⟩,⟨ou⟩,⟨q8⟩,⟨ot⟩⟩
 case rest=>
  clear Od
  try clear c1
  try clear c2
  try clear p2
  try clear c3
  try clear c6
  try clear pP
  try clear BU
  try clear c7
  try clear wU
  try clear Gg
  try clear c9
  try clear c10
  try clear c16
  try clear c20
  try clear UK
  try clear sS
  try clear sU
  try clear sV
  try clear xO
  try clear xP
  try clear Aj
  try clear Ak
  try clear Al
  try clear uF
  try clear uG
  try clear xI
  try clear Ad
  try clear Ae
  try clear QJ
  try clear QK
  try clear QL
  try clear sZ
  try clear s7
  try clear uY
  try clear uZ
  try clear u7
  try clear u9
  try clear vk
  try clear vo
  try clear uL
  try clear uM
  try clear uN
  try clear uO
  try clear uP
  try clear DY
  try clear DZ
  try clear D2
  try clear sH
  try clear sI
  try clear Aq
  try clear Jb
  try clear Jc
  try clear Jd
  try clear Je
  try clear Jf
  try clear xS
  try clear xU
  try clear Au
  try clear Jl
  try clear Jm
  try clear QS
  try clear QT
  try clear QU
  try clear xX
  try clear xY
  try clear xZ
  try clear D6
  try clear D7
  try clear Jp
  try clear Jq
  try clear Jr
  try clear yg
  try clear yh
  try clear Aw
  try clear Jv
  try clear Jw
  try clear QY
  try clear QZ
  try clear Q0
  try clear ym
  try clear yq
  try clear Jz
  try clear JA
  try clear JB
  try clear JC
  try clear JD
  try clear JE
  try clear td
  try clear tj
  try clear tq
  try clear yw
  try clear yx
  try clear Q6
  try clear Q7
  try clear Q8
  try clear sW
  try clear sX
  try clear sY
  try clear xQ
  try clear xR
  try clear Am
  try clear Ao
  try clear Ap
  try clear uH
  try clear uI
  try clear xJ
  try clear Af
  try clear Ag
  try clear QM
  try clear QN
  try clear QO
  try clear s8
  try clear s9
  try clear vq
  try clear vv
  try clear vw
  try clear vA
  try clear vB
  try clear vC
  try clear uQ
  try clear uR
  try clear uS
  try clear uT
  try clear uU
  try clear D3
  try clear D4
  try clear D5
  try clear sJ
  try clear sK
  try clear Ar
  try clear Jg
  try clear Jh
  try clear Ji
  try clear Jj
  try clear Jk
  try clear xV
  try clear xW
  try clear Av
  try clear Jn
  try clear Jo
  try clear QV
  try clear QW
  try clear QX
  try clear ya
  try clear yc
  try clear yf
  try clear D8
  try clear D9
  try clear Js
  try clear Jt
  try clear Ju
  try clear yj
  try clear yl
  try clear Ax
  try clear Jx
  try clear Jy
  try clear Q3
  try clear Q4
  try clear Q5
  try clear yt
  try clear yu
  try clear JF
  try clear JG
  try clear JH
  try clear JI
  try clear JJ
  try clear JK
  try clear tu
  try clear tv
  try clear tA
  try clear yz
  try clear yA
  try clear Q9
  try clear Ra
  try clear Rb
  obtain ⟨kq,QI,rfl,HA,WO,b9,cA,HB⟩:=hcut
  cases kq with
  |zero=>exact absurd HA.out (by simp [aY.j0])
  |succ qb=>
   have H:=HA.out
   clear HA
   simp only [aY.j0] at H
   by_cases GM:QI=true
   ·subst GM
    have H1:(some false)=some r:=by rw [if_pos rfl] at H;exact H
    clear H
    have H:=H1
    clear H1
    obtain rfl:=Option.some.inj H
    go_wp2
    repeat (go_quiet (fail);try go_wp2)
    go_ret
    exact ⟨cO,ot⟩
   ·replace GM:=Bool.eq_false_iff.mpr GM
    subst GM
    have H1:(aY.l0 qb (bO.length:Int) 0 aI aZ bp bX bC ck cm bO fS iW fW iB fX iT iU gF)=some r:=by rw [if_neg (show ¬ (false=true) by decide)] at H;exact H
    clear H
    have H:=H1
    clear H1
    have H':=ah.mk H
    clear H
    have ZO:=nB.out
    have ZP:=nC.out
    have yB:wc.cell? ⟨dH,0,none⟩=some (.int .u8 aI):=(af b9.out 0).trans rfl
    have yC:wc.cell? ⟨dH,1,none⟩=some (.string aZ):=(af b9.out 1).trans rfl
    have yD:wc.cell? ⟨dH,2,none⟩=some (.bool bp):=(af b9.out 2).trans rfl
    have Ay:wc.cell? ⟨dH,3,none⟩=some (.slice dM bX.length dN):=(af b9.out 3).trans rfl
    have Az:wc.cell? ⟨dH,4,none⟩=some (.string bC):=(af b9.out 4).trans rfl
    have AA:wc.cell? ⟨dH,5,none⟩=some (.string ck):=(af b9.out 5).trans rfl
    have AB:wc.cell? ⟨dH,6,none⟩=some (.bool cm):=(af b9.out 6).trans rfl
    have AE:wc.cell? ⟨dH,7,none⟩=some (.slice dR bO.length dO):=(af b9.out 7).trans rfl
    have yE:=aa b9.out 0
    have yF:=aa b9.out 1
    have yG:=aa b9.out 2
    have AG:=aa b9.out 3
    have AH:=aa b9.out 4
    have AJ:=aa b9.out 5
    have AK:=aa b9.out 6
    have AL:=aa b9.out 7
    go_wp2
    repeat (go_quiet (fail);try go_wp2)
    go_loopg [38] qb (fun kq v38 w'=>∃ (iJ:Int),v38= .int .i64 iJ∧ah (aY.l0 kq (bO.length:Int) iJ aI aZ bp bX bC ck cm bO fS iW fW iB fX iT iU gF=some r)∧ah (kq≤qb)∧ah (w'.heap[dH]? =some (.cells #[.int .u8 aI,.string aZ,.bool bp,(.slice dM bX.length dN),.string bC,.string ck,.bool cm,(.slice dR bO.length dO)] 35 (0,0)))∧ah (w'.heap[dX]? =some (.cells #[.int .u8 fS,.string iW,.bool fW,(.slice nW iB.length nX),.string fX,.string iT,.bool iU,(.slice nY gF.length nZ)] 35 (0,0)))∧ah (Below w.heap.size w w'))
    case atStart=>exact ⟨(0),dG,H',⟨Nat.le_refl _⟩,⟨ou⟩,⟨q8⟩,⟨ot⟩⟩
    case round=>
     clear H'
     try clear c1
     try clear c2
     try clear p2
     try clear c3
     try clear c6
     try clear pP
     try clear BU
     try clear c7
     try clear wU
     try clear Gg
     try clear c9
     try clear c10
     try clear c16
     try clear c20
     try clear UK
     try clear GM
     try clear F9
     try clear sS
     try clear sU
     try clear sV
     try clear xO
     try clear xP
     try clear Aj
     try clear Ak
     try clear Al
     try clear uF
     try clear uG
     try clear xI
     try clear Ad
     try clear Ae
     try clear QJ
     try clear QK
     try clear QL
     try clear sZ
     try clear s7
     try clear uY
     try clear uZ
     try clear u7
     try clear u9
     try clear vk
     try clear vo
     try clear uL
     try clear uM
     try clear uN
     try clear uO
     try clear uP
     try clear DY
     try clear DZ
     try clear D2
     try clear sH
     try clear sI
     try clear Aq
     try clear Jb
     try clear Jc
     try clear Jd
     try clear Je
     try clear Jf
     try clear xS
     try clear xU
     try clear Au
     try clear Jl
     try clear Jm
     try clear QS
     try clear QT
     try clear QU
     try clear xX
     try clear xY
     try clear xZ
     try clear D6
     try clear D7
     try clear Jp
     try clear Jq
     try clear Jr
     try clear yg
     try clear yh
     try clear Aw
     try clear Jv
     try clear Jw
     try clear QY
     try clear QZ
     try clear Q0
     try clear ym
     try clear yq
     try clear Jz
     try clear JA
     try clear JB
     try clear JC
     try clear JD
     try clear JE
     try clear td
     try clear tj
     try clear tq
     try clear yw
     try clear yx
     try clear Q6
     try clear Q7
     try clear Q8
     try clear yB
     try clear yC
     try clear yD
     try clear Ay
     try clear Az
     try clear AA
     try clear AB
     try clear AE
     try clear sW
     try clear sX
     try clear sY
     try clear xQ
     try clear xR
     try clear Am
     try clear Ao
     try clear Ap
     try clear uH
     try clear uI
     try clear xJ
     try clear Af
     try clear Ag
     try clear QM
     try clear QN
     try clear QO
     try clear s8
     try clear s9
     try clear vq
     try clear vv
     try clear vw
     try clear vA
     try clear vB
     try clear vC
     try clear uQ
     try clear uR
     try clear uS
     try clear uT
     try clear uU
     try clear D3
     try clear D4
     try clear D5
     try clear sJ
     try clear sK
     try clear Ar
     try clear Jg
     try clear Jh
     try clear Ji
     try clear Jj
     try clear Jk
     try clear xV
     try clear xW
     try clear Av
     try clear Jn
     try clear Jo
     try clear QV
     try clear QW
     try clear QX
     try clear ya
     try clear yc
     try clear yf
     try clear D8
     try clear D9
     try clear Js
     try clear Jt
     try clear Ju
     try clear yj
     try clear yl
     try clear Ax
     try clear Jx
     try clear Jy
     try clear Q3
     try clear Q4
     try clear Q5
     try clear yt
     try clear yu
     try clear JF
     try clear JG
     try clear JH
     try clear JI
     try clear JJ
     try clear JK
     try clear tu
     try clear tv
     try clear tA
     try clear yz
     try clear yA
     try clear Q9
     try clear Ra
     try clear Rb
     try clear yE
     try clear yF
     try clear yG
     try clear AG
     try clear AH
     try clear AJ
     try clear AK
     try clear AL
     try clear p2
     obtain ⟨iJ,rfl,HA,Oe,b9,cA,HB⟩:=hrel
     cases gk with
     |zero=>exact absurd HA.out (by simp [aY.l0])
     |succ k2=>
      have H:=HA.out
      clear HA
      simp only [aY.l0] at H
      by_cases TR:iJ < (bO.length:Int)
      ·rw [if_pos TR] at H
       have ZQ:decide (iJ < (bO.length:Int))=true:=decide_eq_true TR
       clear TR
       by_cases Ol: 0≤iJ
       ·rw [if_pos Ol] at H
        have ac7:decide (0≤iJ)=true:=decide_eq_true Ol
        clear Ol
        by_cases c31:iJ < (bO.length:Int)
        ·rw [if_pos c31] at H
         have ajG:decide (iJ < (bO.length:Int))=true:=decide_eq_true c31
         clear c31
         by_cases BX:iJ < (gF.length:Int)
         ·rw [if_pos BX] at H
          have GN:decide (iJ < (gF.length:Int))=true:=decide_eq_true BX
          clear BX
          by_cases Dj:(!((((dw bO iJ).f0).toList) == (((dw gF iJ).f0).toList)) || (!((((dw bO iJ).f1).toList) == (((dw gF iJ).f1).toList)) || (!(((dw bO iJ).f2) == ((dw gF iJ).f2)))))=true
          ·rw [if_pos Dj] at H
           have L1:(!((((dw bO iJ).f0).toList) == (((dw gF iJ).f0).toList)) || (!((((dw bO iJ).f1).toList) == (((dw gF iJ).f1).toList)) || (!(((dw bO iJ).f2) == ((dw gF iJ).f2)))))=true:=Dj
           clear Dj
           obtain rfl:=Option.some.inj H
           have ac8:=nB.out
           have ac9:=nC.out
           have AO:wr.cell? ⟨dH,0,none⟩=some (.int .u8 aI):=(af b9.out 0).trans rfl
           have AP:wr.cell? ⟨dH,1,none⟩=some (.string aZ):=(af b9.out 1).trans rfl
           have AQ:wr.cell? ⟨dH,2,none⟩=some (.bool bp):=(af b9.out 2).trans rfl
           have Rc:wr.cell? ⟨dH,3,none⟩=some (.slice dM bX.length dN):=(af b9.out 3).trans rfl
           have Re:wr.cell? ⟨dH,4,none⟩=some (.string bC):=(af b9.out 4).trans rfl
           have Xm:wr.cell? ⟨dH,5,none⟩=some (.string ck):=(af b9.out 5).trans rfl
           have Xn:wr.cell? ⟨dH,6,none⟩=some (.bool cm):=(af b9.out 6).trans rfl
           have Xo:wr.cell? ⟨dH,7,none⟩=some (.slice dR bO.length dO):=(af b9.out 7).trans rfl
           have AR:=aa b9.out 0
           have AU:=aa b9.out 1
           have AV:=aa b9.out 2
           have Rf:=aa b9.out 3
           have Rg:=aa b9.out 4
           have Xp:=aa b9.out 5
           have Xq:=aa b9.out 6
           have Xr:=aa b9.out 7
           have Om: 0≤(iJ:Int):=of_decide_eq_true cL
           have Oo:iJ < (bO.length:Int):=of_decide_eq_true cL
           obtain ⟨ada,aaO,vD,vE,vF⟩:=wI n7.out iJ Om Oo
           cases aaO
           replace vD:=(HB.out.cell (World.block_lt_of_cell? w _ vD)).trans vD
           replace vE:=(HB.out.cell (World.block_lt_of_cell? w _ vE)).trans vE
           replace vF:=(HB.out.cell (World.block_lt_of_cell? w _ vF)).trans vF
           replace Om:=eq_true Om
           replace Oo:=eq_true Oo
           have AW:wr.cell? ⟨dX,0,none⟩=some (.int .u8 fS):=(af cA.out 0).trans rfl
           have AX:wr.cell? ⟨dX,1,none⟩=some (.string iW):=(af cA.out 1).trans rfl
           have AY:wr.cell? ⟨dX,2,none⟩=some (.bool fW):=(af cA.out 2).trans rfl
           have Rh:wr.cell? ⟨dX,3,none⟩=some (.slice nW iB.length nX):=(af cA.out 3).trans rfl
           have Ri:wr.cell? ⟨dX,4,none⟩=some (.string fX):=(af cA.out 4).trans rfl
           have Xt:wr.cell? ⟨dX,5,none⟩=some (.string iT):=(af cA.out 5).trans rfl
           have Xu:wr.cell? ⟨dX,6,none⟩=some (.bool iU):=(af cA.out 6).trans rfl
           have Xv:wr.cell? ⟨dX,7,none⟩=some (.slice nY gF.length nZ):=(af cA.out 7).trans rfl
           have AZ:=aa cA.out 0
           have Ba:=aa cA.out 1
           have Bb:=aa cA.out 2
           have Rj:=aa cA.out 3
           have Rk:=aa cA.out 4
           have Xw:=aa cA.out 5
           have Xx:=aa cA.out 6
           have Xy:=aa cA.out 7
           have Oq: 0≤(iJ:Int):=of_decide_eq_true cL
           have Ot:iJ < (gF.length:Int):=of_decide_eq_true cL
           obtain ⟨adb,aaP,vG,vH,vI⟩:=wI QH.out iJ Oq Ot
           cases aaP
           replace vG:=(HB.out.cell (World.block_lt_of_cell? w _ vG)).trans vG
           replace vH:=(HB.out.cell (World.block_lt_of_cell? w _ vH)).trans vH
           replace vI:=(HB.out.cell (World.block_lt_of_cell? w _ vI)).trans vI
           replace Oq:=eq_true Oq
           replace Ot:=eq_true Ot
           go_wp2
           repeat (go_quiet (fail);try go_wp2)
           go_ret
           exact ⟨cO,ot⟩
          ·rw [if_neg Dj] at H
           have L1:(!((((dw bO iJ).f0).toList) == (((dw gF iJ).f0).toList)) || (!((((dw bO iJ).f1).toList) == (((dw gF iJ).f1).toList)) || (!(((dw bO iJ).f2) == ((dw gF iJ).f2)))))=false:=by simpa using Dj
           clear Dj
           have H':=ah.mk H
           clear H
           have ajH:=nB.out
           have ajI:=nC.out
           have Xz:wr.cell? ⟨dH,0,none⟩=some (.int .u8 aI):=(af b9.out 0).trans rfl
           have XA:wr.cell? ⟨dH,1,none⟩=some (.string aZ):=(af b9.out 1).trans rfl
           have XB:wr.cell? ⟨dH,2,none⟩=some (.bool bp):=(af b9.out 2).trans rfl
           have XC:wr.cell? ⟨dH,3,none⟩=some (.slice dM bX.length dN):=(af b9.out 3).trans rfl
           have XD:wr.cell? ⟨dH,4,none⟩=some (.string bC):=(af b9.out 4).trans rfl
           have aeP:wr.cell? ⟨dH,5,none⟩=some (.string ck):=(af b9.out 5).trans rfl
           have aeQ:wr.cell? ⟨dH,6,none⟩=some (.bool cm):=(af b9.out 6).trans rfl
           have aeR:wr.cell? ⟨dH,7,none⟩=some (.slice dR bO.length dO):=(af b9.out 7).trans rfl
           have XE:=aa b9.out 0
           have XF:=aa b9.out 1
           have XG:=aa b9.out 2
           have XH:=aa b9.out 3
           have XI:=aa b9.out 4
           have aeS:=aa b9.out 5
           have aeT:=aa b9.out 6
           have aeU:=aa b9.out 7
           have Om: 0≤(iJ:Int):=of_decide_eq_true cL
           have Oo:iJ < (bO.length:Int):=of_decide_eq_true cL
           obtain ⟨ada,aaO,vD,vE,vF⟩:=wI n7.out iJ Om Oo
           cases aaO
           replace vD:=(HB.out.cell (World.block_lt_of_cell? w _ vD)).trans vD
           replace vE:=(HB.out.cell (World.block_lt_of_cell? w _ vE)).trans vE
           replace vF:=(HB.out.cell (World.block_lt_of_cell? w _ vF)).trans vF
           replace Om:=eq_true Om
           replace Oo:=eq_true Oo
           have Ea:wr.cell? ⟨dX,0,none⟩=some (.int .u8 fS):=(af cA.out 0).trans rfl
           have Eb:wr.cell? ⟨dX,1,none⟩=some (.string iW):=(af cA.out 1).trans rfl
           have XJ:wr.cell? ⟨dX,2,none⟩=some (.bool fW):=(af cA.out 2).trans rfl
           have aeV:wr.cell? ⟨dX,3,none⟩=some (.slice nW iB.length nX):=(af cA.out 3).trans rfl
           have aeW:wr.cell? ⟨dX,4,none⟩=some (.string fX):=(af cA.out 4).trans rfl
           have aeX:wr.cell? ⟨dX,5,none⟩=some (.string iT):=(af cA.out 5).trans rfl
           have aeY:wr.cell? ⟨dX,6,none⟩=some (.bool iU):=(af cA.out 6).trans rfl
           have aeZ:wr.cell? ⟨dX,7,none⟩=some (.slice nY gF.length nZ):=(af cA.out 7).trans rfl
           have Ec:=aa cA.out 0
           have Ed:=aa cA.out 1
           have XK:=aa cA.out 2
           have ae0:=aa cA.out 3
           have ae1:=aa cA.out 4
           have ae2:=aa cA.out 5
           have ae3:=aa cA.out 6
           have ae4:=aa cA.out 7
           have Oq: 0≤(iJ:Int):=of_decide_eq_true cL
           have Ot:iJ < (gF.length:Int):=of_decide_eq_true cL
           obtain ⟨adb,aaP,vG,vH,vI⟩:=wI QH.out iJ Oq Ot
           cases aaP
           replace vG:=(HB.out.cell (World.block_lt_of_cell? w _ vG)).trans vG
           replace vH:=(HB.out.cell (World.block_lt_of_cell? w _ vH)).trans vH
           replace vI:=(HB.out.cell (World.block_lt_of_cell? w _ vI)).trans vI
           replace Oq:=eq_true Oq
           replace Ot:=eq_true Ot
           go_wp2
           repeat (go_quiet (fail);try go_wp2)
           go_roundg k2
           case measure=>have:=WO.out;have:=Oe.out;omega
           case rel=>exact ⟨(wrap64 (iJ + 1)),dG,H',⟨by have:=WO.out;have:=Oe.out;omega⟩,⟨ou⟩,⟨q8⟩,⟨ot⟩⟩
         ·rw [if_neg BX] at H
          exact absurd H aV
        ·rw [if_neg c31] at H
         exact absurd H aV
       ·rw [if_neg Ol] at H
        exact absurd H aV
      ·rw [if_neg TR] at H
       have ZQ:decide (iJ < (bO.length:Int))=false:=decide_eq_false TR
       clear TR
       obtain rfl:=Option.some.inj H
       go_wp2
       repeat (go_quiet (fail);try go_wp2)
       go_ret
       exact ⟨cO,ot⟩
end Go.Proofs.YtokpnfljjjjikaaGreatDoor.nK
