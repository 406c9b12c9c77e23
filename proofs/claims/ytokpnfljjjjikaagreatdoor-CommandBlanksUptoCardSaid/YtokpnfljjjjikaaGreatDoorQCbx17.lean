import Derived.Test.YtokpnfljjjjikaaGreatDoorQCbx16
set_option maxHeartbeats 8000000
set_option maxRecDepth 100000
namespace Go.Proofs.YtokpnfljjjjikaaGreatDoor.nK
open Go.RowKit Go.Proofs.aj.bQ Go.Proofs.aj.fR Go.Proofs.aj.cM
attribute [local go_sem] iY iZ ku kA ig ij jc jd
set_option linter.unusedVariables false
set_option linter.unusedSimpArgs false
attribute [local go_sem high] UI
def aR.l0:Nat→List (gw)→Int→Int→Option (Int)
 | 0,_,_,_ =>none
 |k + 1,x0,x7,x8=>if x8 < x7 then (if 0≤x8 then (if x8 < (x0.length:Int) then ((jh.f k ((dw x0 x8).f0) ((dw x0 x8).f1) ((dw x0 x8).f2)).bind fun YU=>(if YU=true then (some x8) else (aR.l0 k x0 x7 (wrap64 (x8 + 1))))) else (none)) else (none)) else (some (-1))
def aR.f (k:Nat) (l0:List (gw)):Option (Int):=aR.l0 k l0 (l0.length:Int) 0
theorem aR.calls (k:Nat) (A0:Option Addr) (c0:Nat) (l0:List (gw)) (r:Int) (w:World) (zm:Kd.C zN w A0 l0.length l0) (hc0:l0.length≤c0) (h:aR.f k l0=some r):
 Calls Tryz.prog 175 #[.slice A0 l0.length c0,.func (.func 137) #[] #[]] w fun e w'=>e= .returned (.int .i64 r)∧Below w.heap.size w w':=by
 have UM:=Tryz.underlying58
 have xG:=ah.mk zm
 have Qf:=ah.mk hc0
 clear zm hc0
 have HB:=ah.mk (Below.refl w.heap.size w)
 have H:(aR.l0 k l0 (l0.length:Int) 0)=some r:=h
 clear h
 have H':=ah.mk H
 clear H
 go_enter Tryz.func175,Tryz.ntmps175
 go_wp2
 go_loopg [8] k (fun kq v8 w'=>∃ (eJ:Int),v8= .int .i64 eJ∧ah (aR.l0 kq l0 (l0.length:Int) eJ=some r)∧ah (kq≤k)∧ah (Below w.heap.size w w'))
 case atStart=>exact ⟨(0),dG,H',⟨Nat.le_refl _⟩,⟨cw⟩⟩
 case round=>
  clear H'
  try clear c1
  try clear p2
  obtain ⟨eJ,rfl,HA,uz,HB⟩:=hrel
  cases gk with
  |zero=>exact absurd HA.out (by simp [aR.l0])
  |succ k1=>
   have H:=HA.out
   clear HA
   simp only [aR.l0] at H
   by_cases c3:eJ < (l0.length:Int)
   ·rw [if_pos c3] at H
    have pW:decide (eJ < (l0.length:Int))=true:=decide_eq_true c3
    clear c3
    by_cases c4: 0≤eJ
    ·rw [if_pos c4] at H
     have oC:decide (0≤eJ)=true:=decide_eq_true c4
     clear c4
     by_cases c5:eJ < (l0.length:Int)
     ·rw [if_pos c5] at H
      have tR:decide (eJ < (l0.length:Int))=true:=decide_eq_true c5
      clear c5
      replace H:=Option.bind_eq_some_iff.mp H
      obtain ⟨YU,wK,H⟩:=H
      replace H:(if YU=true then (some eJ) else (aR.l0 k1 l0 (l0.length:Int) (wrap64 (eJ + 1))))=some r:=H
      have A6:=ah.mk wK
      clear wK
      by_cases c7:YU=true
      ·subst c7
       have H1:(some eJ)=some r:=by rw [if_pos rfl] at H;exact H
       clear H
       have H:=H1
       clear H1
       obtain rfl:=Option.some.inj H
       have OY: 0≤(eJ:Int):=of_decide_eq_true cL
       have OZ:eJ < (l0.length:Int):=of_decide_eq_true cL
       obtain ⟨aem,abN,vR,vS,vT⟩:=wI xG.out eJ OY OZ
       cases abN
       replace vR:=(HB.out.cell (World.block_lt_of_cell? w _ vR)).trans vR
       replace vS:=(HB.out.cell (World.block_lt_of_cell? w _ vS)).trans vS
       replace vT:=(HB.out.cell (World.block_lt_of_cell? w _ vT)).trans vT
       replace OY:=eq_true OY
       replace OZ:=eq_true OZ
       go_wp2_with (first|(go_at_call 137;(with_reducible refine (jh.calls k1 ((dw l0 eJ).f0) ((dw l0 eJ).f1) ((dw l0 eJ).f2) true _ A6.out).mono ?_);rintro e w8 ⟨rfl,hb⟩;have bL:=ah.mk (aC cw hb);clear HB;have HB:=bL;clear bL;(try clear hb);(try clear hb2);(try clear hk);(try clear hi)))
       go_ret
       exact ⟨cO,cw⟩
      ·replace c7:=Bool.eq_false_iff.mpr c7
       subst c7
       have H1:(aR.l0 k1 l0 (l0.length:Int) (wrap64 (eJ + 1)))=some r:=by rw [if_neg (show ¬ (false=true) by decide)] at H;exact H
       clear H
       have H:=H1
       clear H1
       have H':=ah.mk H
       clear H
       have OY: 0≤(eJ:Int):=of_decide_eq_true cL
       have OZ:eJ < (l0.length:Int):=of_decide_eq_true cL
       obtain ⟨aem,abN,vR,vS,vT⟩:=wI xG.out eJ OY OZ
       cases abN
       replace vR:=(HB.out.cell (World.block_lt_of_cell? w _ vR)).trans vR
       replace vS:=(HB.out.cell (World.block_lt_of_cell? w _ vS)).trans vS
       replace vT:=(HB.out.cell (World.block_lt_of_cell? w _ vT)).trans vT
       replace OY:=eq_true OY
       replace OZ:=eq_true OZ
       go_wp2_with (first|(go_at_call 137;(with_reducible refine (jh.calls k1 ((dw l0 eJ).f0) ((dw l0 eJ).f1) ((dw l0 eJ).f2) false _ A6.out).mono ?_);rintro e w9 ⟨rfl,hb⟩;have bL:=ah.mk (aC cw hb);clear HB;have HB:=bL;clear bL;(try clear hb);(try clear hb2);(try clear hk);(try clear hi)))
       go_roundg k1
       case measure=>have:=uz.out;omega
       case rel=>exact ⟨(wrap64 (eJ + 1)),dG,H',⟨kX⟩,⟨cw⟩⟩
     ·rw [if_neg c5] at H
      exact absurd H aV
    ·rw [if_neg c4] at H
     exact absurd H aV
   ·rw [if_neg c3] at H
    have pW:decide (eJ < (l0.length:Int))=false:=decide_eq_false c3
    clear c3
    obtain rfl:=Option.some.inj H
    go_wp2
    go_ret
    exact ⟨cO,cw⟩
def bI.f (k:Nat) (l0:List (gw)):Option (Bool):=(aR.f k l0).bind fun S9=>(some (decide (S9≥0)))
theorem bI.calls (k:Nat) (A0:Option Addr) (c0:Nat) (l0:List (gw)) (r:Bool) (w:World) (zm:Kd.C zN w A0 l0.length l0) (hc0:l0.length≤c0) (h:bI.f k l0=some r):
 Calls Tryz.prog 136 #[.slice A0 l0.length c0,.func (.func 137) #[] #[]] w fun e w'=>e= .returned (.bool r)∧Below w.heap.size w w':=by
 have xG:=ah.mk zm
 have Qf:=ah.mk hc0
 clear zm hc0
 have HB:=ah.mk (Below.refl w.heap.size w)
 have H:((aR.f k l0).bind fun S9=>(some (decide (S9≥0))))=some r:=h
 clear h
 replace H:=Option.bind_eq_some_iff.mp H
 obtain ⟨S9,zf,H⟩:=H
 replace H:(some (decide (S9≥0)))=some r:=H
 have A3:=ah.mk zf
 clear zf
 obtain rfl:=Option.some.inj H
 go_enter Tryz.func136,Tryz.ntmps136
 go_wp2_with (first|((with_reducible refine aU (f:=175) rfl ?_);refine cB (some 7) rfl rfl Tryz.func175 av rfl #[.slice A0 l0.length c0,.func (.func 137) #[] #[]] rfl cX ?_;(with_reducible refine (aR.calls k _ _ l0 S9 _ ?aW ?bY A3.out).mono ?_);(case aW=>repeat (first|exact xG.out|(with_reducible refine Kd.dZ ?_ _)|(with_reducible refine Kd.eo ?_ _)|(with_reducible refine Kd.eZ ?_)));(case bY=>exact Qf.out);rintro e w4 ⟨rfl,hb⟩;refine ⟨_,rfl,?_⟩;have bL:=ah.mk (aC cw hb);clear HB;have HB:=bL;clear bL;(try clear hb);(try clear hb2);(try clear hk);(try clear hi)))
 go_ret
 exact ⟨cO,cw⟩
def fq.f (k:Nat) (aI:Int) (aZ:ByteArray) (bp:Bool) (bX:List ByteArray) (bC:ByteArray) (ck:ByteArray) (cm:Bool) (bO:List (gw)):Option (Bool):=(dV.f aI).bind fun Ta=>(if Ta=true then (if aZ.toList=([]:List UInt8) then ((fy.f k bp bX bC ck cm).bind fun Gn=>(if Gn=true then ((bI.f k bO).bind fun Br=>(some (!Br))) else (some false))) else (some false)) else (if bp=true then (some false) else (if (bX.length:Int)=0 then (if (bC.toList == ([]:List UInt8) && (ck.toList == ([]:List UInt8) && (!cm)))=true then (some ((bO.length:Int) == 0)) else (some false)) else (some false))))
theorem fq.calls (k:Nat) (aI:Int) (aZ:ByteArray) (bp:Bool) (dM:Option Addr) (dN:Nat) (bX:List ByteArray) (bC:ByteArray) (ck:ByteArray) (cm:Bool) (dR:Option Addr) (dO:Nat) (bO:List (gw)) (r:Bool) (w:World) (qF:Kd.C Kd.string w dM bX.length bX) (qG:bX.length≤dN) (qH:Kd.C zN w dR bO.length bO) (qI:bO.length≤dO) (hG:aQ w) (h:fq.f k aI aZ bp bX bC ck cm bO=some r):
 Calls Tryz.prog 90 #[.agg #[.int .u8 aI,.string aZ,.bool bp,.slice dM bX.length dN,.string bC,.string ck,.bool cm,.slice dR bO.length dO]] w fun e w'=>e= .returned (.bool r)∧Below w.heap.size w w':=by
 have LY:=Tryz.underlying35
 have Oc:=Tryz.underlying32
 have LR:=Tryz.underlying30
 have mH:=ah.mk qF
 have mI:=ah.mk qG
 clear qF qG
 have n7:=ah.mk qH
 have qJ:=ah.mk qI
 clear qH qI
 have HB:=ah.mk (Below.refl w.heap.size w)
 have HG:=ah.mk hG
 clear hG
 have H:((dV.f aI).bind fun Ta=>(if Ta=true then (if aZ.toList=([]:List UInt8) then ((fy.f k bp bX bC ck cm).bind fun Gn=>(if Gn=true then ((bI.f k bO).bind fun Br=>(some (!Br))) else (some false))) else (some false)) else (if bp=true then (some false) else (if (bX.length:Int)=0 then (if (bC.toList == ([]:List UInt8) && (ck.toList == ([]:List UInt8) && (!cm)))=true then (some ((bO.length:Int) == 0)) else (some false)) else (some false)))))=some r:=h
 clear h
 replace H:=Option.bind_eq_some_iff.mp H
 obtain ⟨Ta,nr,H⟩:=H
 replace H:(if Ta=true then (if aZ.toList=([]:List UInt8) then ((fy.f k bp bX bC ck cm).bind fun Gn=>(if Gn=true then ((bI.f k bO).bind fun Br=>(some (!Br))) else (some false))) else (some false)) else (if bp=true then (some false) else (if (bX.length:Int)=0 then (if (bC.toList == ([]:List UInt8) && (ck.toList == ([]:List UInt8) && (!cm)))=true then (some ((bO.length:Int) == 0)) else (some false)) else (some false))))=some r:=H
 have A2:=ah.mk nr
 clear nr
 by_cases c3:Ta=true
 ·subst c3
  have H1:(if aZ.toList=([]:List UInt8) then ((fy.f k bp bX bC ck cm).bind fun Gn=>(if Gn=true then ((bI.f k bO).bind fun Br=>(some (!Br))) else (some false))) else (some false))=some r:=by rw [if_pos rfl] at H;exact H
  clear H
  have H:=H1
  clear H1
  by_cases c4:aZ.toList=([]:List UInt8)
  ·rw [if_pos c4] at H
   have oC:(aZ.toList == ([]:List UInt8))=true:=beq_iff_eq.mpr c4
   have Ge:(aZ.toList != ([]:List UInt8))=false:=bne_eq_false_iff_eq.mpr c4
   clear c4
   replace H:=Option.bind_eq_some_iff.mp H
   obtain ⟨Gn,Qh,H⟩:=H
   replace H:(if Gn=true then ((bI.f k bO).bind fun Br=>(some (!Br))) else (some false))=some r:=H
   have A5:=ah.mk Qh
   clear Qh
   by_cases c6:Gn=true
   ·subst c6
    have H1:((bI.f k bO).bind fun Br=>(some (!Br)))=some r:=by rw [if_pos rfl] at H;exact H
    clear H
    have H:=H1
    clear H1
    replace H:=Option.bind_eq_some_iff.mp H
    obtain ⟨Br,GJ,H⟩:=H
    replace H:(some (!Br))=some r:=H
    have A7:=ah.mk GJ
    clear GJ
    obtain rfl:=Option.some.inj H
    go_enter Tryz.func90,Tryz.ntmps90
    go_wp2_with (first|((with_reducible refine cQ (N:=1) rfl ?_);(try (refine dS (by rfl) ?_;dsimp only));refine cE ?hg (N:=1) ?hd (cs:=#[.int .u8 aI,.string aZ,.bool bp,.slice dM bX.length dN,.string bC,.string ck,.bool cm,.slice dR bO.length dO]) (t:=35) ?hr ?_;(case hd=>rfl);(case hg=>rfl);(case hr=>first|(go_simp;done)|(go_simp;rfl));intro eA hg w8 cY hb;have bL:=ah.mk (aC cw hb);have bS:=ah.mk (cY);have cG:=ah.mk ((dQ:w.heap.size≤eA));have dA:=ah.mk ((dQ:w.heap.size≤eA));clear HB;have HB:=bL;have cJ:=bS;have GX:=cG;have Ex:=dA;clear bL bS cG dA;clear hb cY hg;have pX:w8.cell? ⟨eA,0,none⟩=some (.int .u8 aI):=(af cJ.out 0).trans rfl;have pY:w8.cell? ⟨eA,1,none⟩=some (.string aZ):=(af cJ.out 1).trans rfl;have wS:w8.cell? ⟨eA,2,none⟩=some (.bool bp):=(af cJ.out 2).trans rfl;have zo:w8.cell? ⟨eA,3,none⟩=some (.slice dM bX.length dN):=(af cJ.out 3).trans rfl;have zq:w8.cell? ⟨eA,4,none⟩=some (.string bC):=(af cJ.out 4).trans rfl;have KR:w8.cell? ⟨eA,5,none⟩=some (.string ck):=(af cJ.out 5).trans rfl;have KS:w8.cell? ⟨eA,6,none⟩=some (.bool cm):=(af cJ.out 6).trans rfl;have KU:w8.cell? ⟨eA,7,none⟩=some (.slice dR bO.length dO):=(af cJ.out 7).trans rfl;have pZ:=aa cJ.out 0;have p8:=aa cJ.out 1;have wT:=aa cJ.out 2;have zu:=aa cJ.out 3;have zw:=aa cJ.out 4;have KV:=aa cJ.out 5;have KW:=aa cJ.out 6;have KX:=aa cJ.out 7)|((with_reducible refine aU (f:=135) rfl ?_);refine cB (some 5) rfl rfl Tryz.func135 av rfl #[.int .u8 aI] rfl cX ?_;(with_reducible refine (dV.calls aI true _ A2.out).mono ?_);rintro e w' ⟨rfl,⟨nd,rfl⟩⟩;refine ⟨_,rfl,?_⟩)|(go_at_call 20;(with_reducible refine (fy.calls k bp _ _ bX bC ck cm true _ ?aW ?bY ?eO A5.out).mono ?_);(case aW=>repeat (first|exact (Kd.eF mH.out oV)|(with_reducible refine Kd.dZ ?_ _)|(with_reducible refine Kd.eo ?_ _)|(with_reducible refine Kd.eZ ?_)));(case bY=>exact mI.out);(case eO=>exact aQ.below HG.out oV);rintro e sw ⟨rfl,hb⟩;have bL:=ah.mk (aX (g:=eA) (o:= .cells #[.int .u8 aI,.string aZ,.bool bp,.slice dM bX.length dN,.string bC,.string ck,.bool cm,.slice dR bO.length dO] 35 (0,0)) Ib hb);have bS:=ah.mk (aC oV hb);clear cJ;clear HB;have cJ:=bL;have HB:=bS;clear bL bS;(try clear hb);(try clear hb2);(try clear hk);(try clear hi);have sS:sw.cell? ⟨eA,0,none⟩=some (.int .u8 aI):=(af cJ.out 0).trans rfl;have sU:sw.cell? ⟨eA,1,none⟩=some (.string aZ):=(af cJ.out 1).trans rfl;have sV:sw.cell? ⟨eA,2,none⟩=some (.bool bp):=(af cJ.out 2).trans rfl;have xO:sw.cell? ⟨eA,3,none⟩=some (.slice dM bX.length dN):=(af cJ.out 3).trans rfl;have xP:sw.cell? ⟨eA,4,none⟩=some (.string bC):=(af cJ.out 4).trans rfl;have Aj:sw.cell? ⟨eA,5,none⟩=some (.string ck):=(af cJ.out 5).trans rfl;have Ak:sw.cell? ⟨eA,6,none⟩=some (.bool cm):=(af cJ.out 6).trans rfl;have Al:sw.cell? ⟨eA,7,none⟩=some (.slice dR bO.length dO):=(af cJ.out 7).trans rfl;have sW:=aa cJ.out 0;have sX:=aa cJ.out 1;have sY:=aa cJ.out 2;have xQ:=aa cJ.out 3;have xR:=aa cJ.out 4;have Am:=aa cJ.out 5;have Ao:=aa cJ.out 6;have Ap:=aa cJ.out 7)|(go_at_call 136;(with_reducible refine (bI.calls k _ _ bO Br _ ?aW ?bY A7.out).mono ?_);(case aW=>repeat (first|exact (Kd.eF n7.out HB.out)|(with_reducible refine Kd.dZ ?_ _)|(with_reducible refine Kd.eo ?_ _)|(with_reducible refine Kd.eZ ?_)));(case bY=>exact qJ.out);rintro e SJ ⟨rfl,hb⟩;have bL:=ah.mk (aX (g:=eA) (o:= .cells #[.int .u8 aI,.string aZ,.bool bp,.slice dM bX.length dN,.string bC,.string ck,.bool cm,.slice dR bO.length dO] 35 (0,0)) Ib hb);have bS:=ah.mk (aC oV hb);clear cJ;clear HB;have cJ:=bL;have HB:=bS;clear bL bS;(try clear hb);(try clear hb2);(try clear hk);(try clear hi)))
    go_ret
    exact ⟨cO,oV⟩
   ·replace c6:=Bool.eq_false_iff.mpr c6
    subst c6
    have H1:(some false)=some r:=by rw [if_neg (show ¬ (false=true) by decide)] at H;exact H
    clear H
    have H:=H1
    clear H1
    obtain rfl:=Option.some.inj H
    go_enter Tryz.func90,Tryz.ntmps90
    go_wp2_with (first|((with_reducible refine cQ (N:=1) rfl ?_);(try (refine dS (by rfl) ?_;dsimp only));refine cE ?hg (N:=1) ?hd (cs:=#[.int .u8 aI,.string aZ,.bool bp,.slice dM bX.length dN,.string bC,.string ck,.bool cm,.slice dR bO.length dO]) (t:=35) ?hr ?_;(case hd=>rfl);(case hg=>rfl);(case hr=>first|(go_simp;done)|(go_simp;rfl));intro eA hg nj cY hb;have bL:=ah.mk (aC cw hb);have bS:=ah.mk (cY);have cG:=ah.mk ((dQ:w.heap.size≤eA));have dA:=ah.mk ((dQ:w.heap.size≤eA));clear HB;have HB:=bL;have cJ:=bS;have GX:=cG;have Ex:=dA;clear bL bS cG dA;clear hb cY hg;have sZ:nj.cell? ⟨eA,0,none⟩=some (.int .u8 aI):=(af cJ.out 0).trans rfl;have s7:nj.cell? ⟨eA,1,none⟩=some (.string aZ):=(af cJ.out 1).trans rfl;have uY:nj.cell? ⟨eA,2,none⟩=some (.bool bp):=(af cJ.out 2).trans rfl;have uZ:nj.cell? ⟨eA,3,none⟩=some (.slice dM bX.length dN):=(af cJ.out 3).trans rfl;have u7:nj.cell? ⟨eA,4,none⟩=some (.string bC):=(af cJ.out 4).trans rfl;have u9:nj.cell? ⟨eA,5,none⟩=some (.string ck):=(af cJ.out 5).trans rfl;have vk:nj.cell? ⟨eA,6,none⟩=some (.bool cm):=(af cJ.out 6).trans rfl;have vo:nj.cell? ⟨eA,7,none⟩=some (.slice dR bO.length dO):=(af cJ.out 7).trans rfl;have s8:=aa cJ.out 0;have s9:=aa cJ.out 1;have vq:=aa cJ.out 2;have vv:=aa cJ.out 3;have vw:=aa cJ.out 4;have vA:=aa cJ.out 5;have vB:=aa cJ.out 6;have vC:=aa cJ.out 7)|((with_reducible refine aU (f:=135) rfl ?_);refine cB (some 5) rfl rfl Tryz.func135 av rfl #[.int .u8 aI] rfl cX ?_;(with_reducible refine (dV.calls aI true _ A2.out).mono ?_);rintro e w' ⟨rfl,⟨nd,rfl⟩⟩;refine ⟨_,rfl,?_⟩)|(go_at_call 20;(with_reducible refine (fy.calls k bp _ _ bX bC ck cm false _ ?aW ?bY ?eO A5.out).mono ?_);(case aW=>repeat (first|exact (Kd.eF mH.out oV)|(with_reducible refine Kd.dZ ?_ _)|(with_reducible refine Kd.eo ?_ _)|(with_reducible refine Kd.eZ ?_)));(case bY=>exact mI.out);(case eO=>exact aQ.below HG.out oV);rintro e GP ⟨rfl,hb⟩;have bL:=ah.mk (aX (g:=eA) (o:= .cells #[.int .u8 aI,.string aZ,.bool bp,.slice dM bX.length dN,.string bC,.string ck,.bool cm,.slice dR bO.length dO] 35 (0,0)) Ib hb);have bS:=ah.mk (aC oV hb);clear cJ;clear HB;have cJ:=bL;have HB:=bS;clear bL bS;(try clear hb);(try clear hb2);(try clear hk);(try clear hi)))
    go_ret
    exact ⟨cO,oV⟩
  ·rw [if_neg c4] at H
   have oC:(aZ.toList == ([]:List UInt8))=false:=beq_eq_false_iff_ne.mpr c4
   have Ge:(aZ.toList != ([]:List UInt8))=true:=bne_iff_ne.mpr c4
   obtain rfl:=Option.some.inj H
   go_enter Tryz.func90,Tryz.ntmps90
   go_wp2_with (first|((with_reducible refine cQ (N:=1) rfl ?_);(try (refine dS (by rfl) ?_;dsimp only));refine cE ?hg (N:=1) ?hd (cs:=#[.int .u8 aI,.string aZ,.bool bp,.slice dM bX.length dN,.string bC,.string ck,.bool cm,.slice dR bO.length dO]) (t:=35) ?hr ?_;(case hd=>rfl);(case hg=>rfl);(case hr=>first|(go_simp;done)|(go_simp;rfl));intro eA hg w16 cY hb;have bL:=ah.mk (aC cw hb);have bS:=ah.mk (cY);have cG:=ah.mk ((dQ:w.heap.size≤eA));have dA:=ah.mk ((dQ:w.heap.size≤eA));clear HB;have HB:=bL;have cJ:=bS;have GX:=cG;have Ex:=dA;clear bL bS cG dA;clear hb cY hg;have sH:w16.cell? ⟨eA,0,none⟩=some (.int .u8 aI):=(af cJ.out 0).trans rfl;have sI:w16.cell? ⟨eA,1,none⟩=some (.string aZ):=(af cJ.out 1).trans rfl;have Aq:w16.cell? ⟨eA,2,none⟩=some (.bool bp):=(af cJ.out 2).trans rfl;have Jb:w16.cell? ⟨eA,3,none⟩=some (.slice dM bX.length dN):=(af cJ.out 3).trans rfl;have Jc:w16.cell? ⟨eA,4,none⟩=some (.string bC):=(af cJ.out 4).trans rfl;have Jd:w16.cell? ⟨eA,5,none⟩=some (.string ck):=(af cJ.out 5).trans rfl;have Je:w16.cell? ⟨eA,6,none⟩=some (.bool cm):=(af cJ.out 6).trans rfl;have Jf:w16.cell? ⟨eA,7,none⟩=some (.slice dR bO.length dO):=(af cJ.out 7).trans rfl;have sJ:=aa cJ.out 0;have sK:=aa cJ.out 1;have Ar:=aa cJ.out 2;have Jg:=aa cJ.out 3;have Jh:=aa cJ.out 4;have Ji:=aa cJ.out 5;have Jj:=aa cJ.out 6;have Jk:=aa cJ.out 7)|((with_reducible refine aU (f:=135) rfl ?_);refine cB (some 5) rfl rfl Tryz.func135 av rfl #[.int .u8 aI] rfl cX ?_;(with_reducible refine (dV.calls aI true _ A2.out).mono ?_);rintro e w' ⟨rfl,⟨nd,rfl⟩⟩;refine ⟨_,rfl,?_⟩))
   go_ret
   exact ⟨cO,oV⟩
 ·replace c3:=Bool.eq_false_iff.mpr c3
  subst c3
  have H1:(if bp=true then (some false) else (if (bX.length:Int)=0 then (if (bC.toList == ([]:List UInt8) && (ck.toList == ([]:List UInt8) && (!cm)))=true then (some ((bO.length:Int) == 0)) else (some false)) else (some false)))=some r:=by rw [if_neg (show ¬ (false=true) by decide)] at H;exact H
  clear H
  have H:=H1
  clear H1
  by_cases c18:bp=true
  ·subst c18
   have H1:(some false)=some r:=by rw [if_pos rfl] at H;exact H
   clear H
   have H:=H1
   clear H1
   obtain rfl:=Option.some.inj H
   go_enter Tryz.func90,Tryz.ntmps90
   go_wp2_with (first|((with_reducible refine cQ (N:=1) rfl ?_);(try (refine dS (by rfl) ?_;dsimp only));refine cE ?hg (N:=1) ?hd (cs:=#[.int .u8 aI,.string aZ,.bool true,.slice dM bX.length dN,.string bC,.string ck,.bool cm,.slice dR bO.length dO]) (t:=35) ?hr ?_;(case hd=>rfl);(case hg=>rfl);(case hr=>first|(go_simp;done)|(go_simp;rfl));intro eA hg LZ cY hb;have bL:=ah.mk (aC cw hb);have bS:=ah.mk (cY);have cG:=ah.mk ((dQ:w.heap.size≤eA));have dA:=ah.mk ((dQ:w.heap.size≤eA));clear HB;have HB:=bL;have cJ:=bS;have GX:=cG;have Ex:=dA;clear bL bS cG dA;clear hb cY hg;have Ee:LZ.cell? ⟨eA,0,none⟩=some (.int .u8 aI):=(af cJ.out 0).trans rfl;have Ef:LZ.cell? ⟨eA,1,none⟩=some (.string aZ):=(af cJ.out 1).trans rfl;have YE:LZ.cell? ⟨eA,2,none⟩=some (.bool true):=(af cJ.out 2).trans rfl;have agU:LZ.cell? ⟨eA,3,none⟩=some (.slice dM bX.length dN):=(af cJ.out 3).trans rfl;have agV:LZ.cell? ⟨eA,4,none⟩=some (.string bC):=(af cJ.out 4).trans rfl;have agW:LZ.cell? ⟨eA,5,none⟩=some (.string ck):=(af cJ.out 5).trans rfl;have agX:LZ.cell? ⟨eA,6,none⟩=some (.bool cm):=(af cJ.out 6).trans rfl;have agY:LZ.cell? ⟨eA,7,none⟩=some (.slice dR bO.length dO):=(af cJ.out 7).trans rfl;have Eg:=aa cJ.out 0;have Eh:=aa cJ.out 1;have YF:=aa cJ.out 2;have agZ:=aa cJ.out 3;have ag0:=aa cJ.out 4;have ag1:=aa cJ.out 5;have ag2:=aa cJ.out 6;have ag3:=aa cJ.out 7)|((with_reducible refine aU (f:=135) rfl ?_);refine cB (some 5) rfl rfl Tryz.func135 av rfl #[.int .u8 aI] rfl cX ?_;(with_reducible refine (dV.calls aI false _ A2.out).mono ?_);rintro e w' ⟨rfl,⟨nd,rfl⟩⟩;refine ⟨_,rfl,?_⟩))
   go_ret
   exact ⟨cO,oV⟩
  ·replace c18:=Bool.eq_false_iff.mpr c18
   subst c18
   have H1:(if (bX.length:Int)=0 then (if (bC.toList == ([]:List UInt8) && (ck.toList == ([]:List UInt8) && (!cm)))=true then (some ((bO.length:Int) == 0)) else (some false)) else (some false))=some r:=by rw [if_neg (show ¬ (false=true) by decide)] at H;exact H
   clear H
   have H:=H1
   clear H1
   by_cases c21:(bX.length:Int)=0
   ·rw [if_pos c21] at H
    have Qt:((bX.length:Int) == 0)=true:=beq_iff_eq.mpr c21
    have VL:((bX.length:Int) != 0)=false:=bne_eq_false_iff_eq.mpr c21
    clear c21
    by_cases Gf:(bC.toList == ([]:List UInt8) && (ck.toList == ([]:List UInt8) && (!cm)))=true
    ·rw [if_pos Gf] at H
     have Qu:(bC.toList == ([]:List UInt8) && (ck.toList == ([]:List UInt8) && (!cm)))=true:=Gf
     have O0:∀ l:List UInt8,l.isEmpty=(l == []):=fun l=>by cases l<;>rfl
     have aiY:(bC.toList.isEmpty && (ck.toList.isEmpty && (!cm)))=true:=by rw [O0,O0];exact Qu
     clear O0
     (try (have aen:decide (bC.toList=([]:List UInt8) && (ck.toList == ([]:List UInt8) && (!cm)))=true:=by simpa using Gf))
     (try (have aeo:(bC.toList == ([]:List UInt8) && (ck.toList == ([]:List UInt8) && (!cm)))=true:=by simpa using Gf))
     clear Gf
     obtain rfl:=Option.some.inj H
     go_enter Tryz.func90,Tryz.ntmps90
     go_wp2_with (first|((with_reducible refine cQ (N:=1) rfl ?_);(try (refine dS (by rfl) ?_;dsimp only));refine cE ?hg (N:=1) ?hd (cs:=#[.int .u8 aI,.string aZ,.bool false,.slice dM bX.length dN,.string bC,.string ck,.bool cm,.slice dR bO.length dO]) (t:=35) ?hr ?_;(case hd=>rfl);(case hg=>rfl);(case hr=>first|(go_simp;done)|(go_simp;rfl));intro eA hg Li cY hb;have bL:=ah.mk (aC cw hb);have bS:=ah.mk (cY);have cG:=ah.mk ((dQ:w.heap.size≤eA));have dA:=ah.mk ((dQ:w.heap.size≤eA));clear HB;have HB:=bL;have cJ:=bS;have GX:=cG;have Ex:=dA;clear bL bS cG dA;clear hb cY hg;have ym:Li.cell? ⟨eA,0,none⟩=some (.int .u8 aI):=(af cJ.out 0).trans rfl;have yq:Li.cell? ⟨eA,1,none⟩=some (.string aZ):=(af cJ.out 1).trans rfl;have Jz:Li.cell? ⟨eA,2,none⟩=some (.bool false):=(af cJ.out 2).trans rfl;have JA:Li.cell? ⟨eA,3,none⟩=some (.slice dM bX.length dN):=(af cJ.out 3).trans rfl;have JB:Li.cell? ⟨eA,4,none⟩=some (.string bC):=(af cJ.out 4).trans rfl;have JC:Li.cell? ⟨eA,5,none⟩=some (.string ck):=(af cJ.out 5).trans rfl;have JD:Li.cell? ⟨eA,6,none⟩=some (.bool cm):=(af cJ.out 6).trans rfl;have JE:Li.cell? ⟨eA,7,none⟩=some (.slice dR bO.length dO):=(af cJ.out 7).trans rfl;have yt:=aa cJ.out 0;have yu:=aa cJ.out 1;have JF:=aa cJ.out 2;have JG:=aa cJ.out 3;have JH:=aa cJ.out 4;have JI:=aa cJ.out 5;have JJ:=aa cJ.out 6;have JK:=aa cJ.out 7)|((with_reducible refine aU (f:=135) rfl ?_);refine cB (some 5) rfl rfl Tryz.func135 av rfl #[.int .u8 aI] rfl cX ?_;(with_reducible refine (dV.calls aI false _ A2.out).mono ?_);rintro e w' ⟨rfl,⟨nd,rfl⟩⟩;refine ⟨_,rfl,?_⟩))
     go_ret
     exact ⟨cO,oV⟩
    ·rw [if_neg Gf] at H
     have Qu:(bC.toList == ([]:List UInt8) && (ck.toList == ([]:List UInt8) && (!cm)))=false:=by simpa using Gf
     have O0:∀ l:List UInt8,l.isEmpty=(l == []):=fun l=>by cases l<;>rfl
     have aiY:(bC.toList.isEmpty && (ck.toList.isEmpty && (!cm)))=false:=by rw [O0,O0];exact Qu
     clear O0
     (try (have aen:decide (bC.toList=([]:List UInt8) && (ck.toList == ([]:List UInt8) && (!cm)))=false:=by simpa using Gf))
     (try (have aeo:(bC.toList == ([]:List UInt8) && (ck.toList == ([]:List UInt8) && (!cm)))=false:=by simpa using Gf))
     (try (have ak4: ¬ (bC.toList=([]:List UInt8) && (ck.toList == ([]:List UInt8) && (!cm))):=by simpa using Gf))
     clear Gf
     obtain rfl:=Option.some.inj H
     go_enter Tryz.func90,Tryz.ntmps90
     go_wp2_with (first|((with_reducible refine cQ (N:=1) rfl ?_);(try (refine dS (by rfl) ?_;dsimp only));refine cE ?hg (N:=1) ?hd (cs:=#[.int .u8 aI,.string aZ,.bool false,.slice dM bX.length dN,.string bC,.string ck,.bool cm,.slice dR bO.length dO]) (t:=35) ?hr ?_;(case hd=>rfl);(case hg=>rfl);(case hr=>first|(go_simp;done)|(go_simp;rfl));intro eA hg TS cY hb;have bL:=ah.mk (aC cw hb);have bS:=ah.mk (cY);have cG:=ah.mk ((dQ:w.heap.size≤eA));have dA:=ah.mk ((dQ:w.heap.size≤eA));clear HB;have HB:=bL;have cJ:=bS;have GX:=cG;have Ex:=dA;clear bL bS cG dA;clear hb cY hg;have IM:TS.cell? ⟨eA,0,none⟩=some (.int .u8 aI):=(af cJ.out 0).trans rfl;have IP:TS.cell? ⟨eA,1,none⟩=some (.string aZ):=(af cJ.out 1).trans rfl;have IQ:TS.cell? ⟨eA,2,none⟩=some (.bool false):=(af cJ.out 2).trans rfl;have Xc:TS.cell? ⟨eA,3,none⟩=some (.slice dM bX.length dN):=(af cJ.out 3).trans rfl;have Xd:TS.cell? ⟨eA,4,none⟩=some (.string bC):=(af cJ.out 4).trans rfl;have ag4:TS.cell? ⟨eA,5,none⟩=some (.string ck):=(af cJ.out 5).trans rfl;have ag5:TS.cell? ⟨eA,6,none⟩=some (.bool cm):=(af cJ.out 6).trans rfl;have ag6:TS.cell? ⟨eA,7,none⟩=some (.slice dR bO.length dO):=(af cJ.out 7).trans rfl;have IU:=aa cJ.out 0;have IV:=aa cJ.out 1;have IW:=aa cJ.out 2;have Xe:=aa cJ.out 3;have Xf:=aa cJ.out 4;have ag7:=aa cJ.out 5;have ag8:=aa cJ.out 6;have ag9:=aa cJ.out 7)|((with_reducible refine aU (f:=135) rfl ?_);refine cB (some 5) rfl rfl Tryz.func135 av rfl #[.int .u8 aI] rfl cX ?_;(with_reducible refine (dV.calls aI false _ A2.out).mono ?_);rintro e w' ⟨rfl,⟨nd,rfl⟩⟩;refine ⟨_,rfl,?_⟩))
     go_ret
     exact ⟨cO,oV⟩
   ·rw [if_neg c21] at H
    have Qt:((bX.length:Int) == 0)=false:=beq_eq_false_iff_ne.mpr c21
    have VL:((bX.length:Int) != 0)=true:=bne_iff_ne.mpr c21
    have RS: ¬ (bX= []):=fun h_ =>c21 (by rw [h_];rfl)
    obtain rfl:=Option.some.inj H
    go_enter Tryz.func90,Tryz.ntmps90
    go_wp2_with (first|((with_reducible refine cQ (N:=1) rfl ?_);(try (refine dS (by rfl) ?_;dsimp only));refine cE ?hg (N:=1) ?hd (cs:=#[.int .u8 aI,.string aZ,.bool false,.slice dM bX.length dN,.string bC,.string ck,.bool cm,.slice dR bO.length dO]) (t:=35) ?hr ?_;(case hd=>rfl);(case hg=>rfl);(case hr=>first|(go_simp;done)|(go_simp;rfl));intro eA hg WH cY hb;have bL:=ah.mk (aC cw hb);have bS:=ah.mk (cY);have cG:=ah.mk ((dQ:w.heap.size≤eA));have dA:=ah.mk ((dQ:w.heap.size≤eA));clear HB;have HB:=bL;have cJ:=bS;have GX:=cG;have Ex:=dA;clear bL bS cG dA;clear hb cY hg;have yB:WH.cell? ⟨eA,0,none⟩=some (.int .u8 aI):=(af cJ.out 0).trans rfl;have yC:WH.cell? ⟨eA,1,none⟩=some (.string aZ):=(af cJ.out 1).trans rfl;have yD:WH.cell? ⟨eA,2,none⟩=some (.bool false):=(af cJ.out 2).trans rfl;have Ay:WH.cell? ⟨eA,3,none⟩=some (.slice dM bX.length dN):=(af cJ.out 3).trans rfl;have Az:WH.cell? ⟨eA,4,none⟩=some (.string bC):=(af cJ.out 4).trans rfl;have AA:WH.cell? ⟨eA,5,none⟩=some (.string ck):=(af cJ.out 5).trans rfl;have AB:WH.cell? ⟨eA,6,none⟩=some (.bool cm):=(af cJ.out 6).trans rfl;have AE:WH.cell? ⟨eA,7,none⟩=some (.slice dR bO.length dO):=(af cJ.out 7).trans rfl;have yE:=aa cJ.out 0;have yF:=aa cJ.out 1;have yG:=aa cJ.out 2;have AG:=aa cJ.out 3;have AH:=aa cJ.out 4;have AJ:=aa cJ.out 5;have AK:=aa cJ.out 6;have AL:=aa cJ.out 7)|((with_reducible refine aU (f:=135) rfl ?_);refine cB (some 5) rfl rfl Tryz.func135 av rfl #[.int .u8 aI] rfl cX ?_;(with_reducible refine (dV.calls aI false _ A2.out).mono ?_);rintro e w' ⟨rfl,⟨nd,rfl⟩⟩;refine ⟨_,rfl,?_⟩))
    go_ret
    exact ⟨cO,oV⟩
def iX.f (k:Nat) (aI:Int) (aZ:ByteArray) (bp:Bool) (bX:List ByteArray) (bC:ByteArray) (ck:ByteArray) (cm:Bool) (bO:List (gw)):Option (Bool):=(fq.f k aI aZ bp bX bC ck cm bO).bind fun Tb=>(if Tb=true then ((bU.f k aI aZ bp bX bC ck cm bO).bind fun wz=>((ak.f k wz).bind fun pH=>(if pH.2.2.2.2.2.2.2.2=0 then (if pH.1=aI then (some (pH.2.1.toList == aZ.toList)) else (some false)) else (some false)))) else (some false))
theorem iX.calls (k:Nat) (aI:Int) (aZ:ByteArray) (bp:Bool) (dM:Option Addr) (dN:Nat) (bX:List ByteArray) (bC:ByteArray) (ck:ByteArray) (cm:Bool) (dR:Option Addr) (dO:Nat) (bO:List (gw)) (r:Bool) (w:World) (qF:Kd.C Kd.string w dM bX.length bX) (qG:bX.length≤dN) (qH:Kd.C zN w dR bO.length bO) (qI:bO.length≤dO) (hG:aQ w) (h:iX.f k aI aZ bp bX bC ck cm bO=some r):
 Calls Tryz.prog 34 #[.agg #[.int .u8 aI,.string aZ,.bool bp,.slice dM bX.length dN,.string bC,.string ck,.bool cm,.slice dR bO.length dO]] w fun e w'=>e= .returned (.bool r)∧Below w.heap.size w w':=by
 have LY:=Tryz.underlying35
 have mH:=ah.mk qF
 have mI:=ah.mk qG
 clear qF qG
 have n7:=ah.mk qH
 have qJ:=ah.mk qI
 clear qH qI
 have HB:=ah.mk (Below.refl w.heap.size w)
 have HG:=ah.mk hG
 clear hG
 have H:((fq.f k aI aZ bp bX bC ck cm bO).bind fun Tb=>(if Tb=true then ((bU.f k aI aZ bp bX bC ck cm bO).bind fun wz=>((ak.f k wz).bind fun pH=>(if pH.2.2.2.2.2.2.2.2=0 then (if pH.1=aI then (some (pH.2.1.toList == aZ.toList)) else (some false)) else (some false)))) else (some false)))=some r:=h
 clear h
 replace H:=Option.bind_eq_some_iff.mp H
 obtain ⟨Tb,nr,H⟩:=H
 replace H:(if Tb=true then ((bU.f k aI aZ bp bX bC ck cm bO).bind fun wz=>((ak.f k wz).bind fun pH=>(if pH.2.2.2.2.2.2.2.2=0 then (if pH.1=aI then (some (pH.2.1.toList == aZ.toList)) else (some false)) else (some false)))) else (some false))=some r:=H
 have A2:=ah.mk nr
 clear nr
 by_cases c3:Tb=true
 ·subst c3
  have H1:((bU.f k aI aZ bp bX bC ck cm bO).bind fun wz=>((ak.f k wz).bind fun pH=>(if pH.2.2.2.2.2.2.2.2=0 then (if pH.1=aI then (some (pH.2.1.toList == aZ.toList)) else (some false)) else (some false))))=some r:=by rw [if_pos rfl] at H;exact H
  clear H
  have H:=H1
  clear H1
  replace H:=Option.bind_eq_some_iff.mp H
  obtain ⟨wz,CC,H⟩:=H
  replace H:((ak.f k wz).bind fun pH=>(if pH.2.2.2.2.2.2.2.2=0 then (if pH.1=aI then (some (pH.2.1.toList == aZ.toList)) else (some false)) else (some false)))=some r:=H
  have A4:=ah.mk CC
  clear CC
  replace H:=Option.bind_eq_some_iff.mp H
  obtain ⟨⟨KY,YV,abO,abP,abQ,abR,abS,abT,KZ⟩,Qh,H⟩:=H
  replace H:(if KZ=0 then (if KY=aI then (some (YV.toList == aZ.toList)) else (some false)) else (some false))=some r:=H
  have A5:=ah.mk Qh
  clear Qh
  by_cases c6:KZ=0
  ·rw [if_pos c6] at H
   have pP:(KZ == 0)=true:=beq_iff_eq.mpr c6
   have BU:(KZ != 0)=false:=bne_eq_false_iff_eq.mpr c6
   clear c6
   by_cases c7:KY=aI
   ·rw [if_pos c7] at H
    have wU:(KY == aI)=true:=beq_iff_eq.mpr c7
    have Gg:(KY != aI)=false:=bne_eq_false_iff_eq.mpr c7
    clear c7
    obtain rfl:=Option.some.inj H
    go_enter Tryz.func34,Tryz.ntmps34
    go_wp2_with (first|((with_reducible refine cQ (N:=1) rfl ?_);refine cE ?hg (N:=1) ?hd (cs:=#[.int .u8 aI,.string aZ,.bool bp,.slice dM bX.length dN,.string bC,.string ck,.bool cm,.slice dR bO.length dO]) (t:=35) ?hr ?_;(case hd=>rfl);(case hg=>rfl);(case hr=>first|(go_simp;done)|(go_simp;rfl));intro dK hg w8 cY hb;have bL:=ah.mk (aC cw hb);have bS:=ah.mk (cY);have cG:=ah.mk ((dQ:w.heap.size≤dK));have dA:=ah.mk ((dQ:w.heap.size≤dK));clear HB;have HB:=bL;have cr:=bS;have VU:=cG;have Gx:=dA;clear bL bS cG dA;clear hb cY hg;have pX:w8.cell? ⟨dK,0,none⟩=some (.int .u8 aI):=(af cr.out 0).trans rfl;have pY:w8.cell? ⟨dK,1,none⟩=some (.string aZ):=(af cr.out 1).trans rfl;have wS:w8.cell? ⟨dK,2,none⟩=some (.bool bp):=(af cr.out 2).trans rfl;have zo:w8.cell? ⟨dK,3,none⟩=some (.slice dM bX.length dN):=(af cr.out 3).trans rfl;have zq:w8.cell? ⟨dK,4,none⟩=some (.string bC):=(af cr.out 4).trans rfl;have KR:w8.cell? ⟨dK,5,none⟩=some (.string ck):=(af cr.out 5).trans rfl;have KS:w8.cell? ⟨dK,6,none⟩=some (.bool cm):=(af cr.out 6).trans rfl;have KU:w8.cell? ⟨dK,7,none⟩=some (.slice dR bO.length dO):=(af cr.out 7).trans rfl;have pZ:=aa cr.out 0;have p8:=aa cr.out 1;have wT:=aa cr.out 2;have zu:=aa cr.out 3;have zw:=aa cr.out 4;have KV:=aa cr.out 5;have KW:=aa cr.out 6;have KX:=aa cr.out 7)|((with_reducible refine aU (f:=90) rfl ?_);refine cB (some 6) rfl rfl Tryz.func90 av rfl #[.agg #[.int .u8 aI,.string aZ,.bool bp,.slice dM bX.length dN,.string bC,.string ck,.bool cm,.slice dR bO.length dO]] rfl cX ?_;(with_reducible refine (fq.calls k aI aZ bp _ _ bX bC ck cm _ _ bO true _ ?aW ?bY ?eO ?gP ?jN A2.out).mono ?_);(case aW=>repeat (first|exact (Kd.eF mH.out HB.out)|(with_reducible refine Kd.dZ ?_ _)|(with_reducible refine Kd.eo ?_ _)|(with_reducible refine Kd.eZ ?_)));(case bY=>exact mI.out);(case eO=>repeat (first|exact (Kd.eF n7.out HB.out)|(with_reducible refine Kd.dZ ?_ _)|(with_reducible refine Kd.eo ?_ _)|(with_reducible refine Kd.eZ ?_)));(case gP=>exact qJ.out);(case jN=>exact aQ.below HG.out kJ);rintro e sw ⟨rfl,hb⟩;refine ⟨_,rfl,?_⟩;have bL:=ah.mk (aX (g:=dK) (o:= .cells #[.int .u8 aI,.string aZ,.bool bp,.slice dM bX.length dN,.string bC,.string ck,.bool cm,.slice dR bO.length dO] 35 (0,0)) pV hb);have bS:=ah.mk (aC kJ hb);clear cr;clear HB;have cr:=bL;have HB:=bS;clear bL bS;(try clear hb);(try clear hb2);(try clear hk);(try clear hi);have sS:sw.cell? ⟨dK,0,none⟩=some (.int .u8 aI):=(af cr.out 0).trans rfl;have sU:sw.cell? ⟨dK,1,none⟩=some (.string aZ):=(af cr.out 1).trans rfl;have sV:sw.cell? ⟨dK,2,none⟩=some (.bool bp):=(af cr.out 2).trans rfl;have xO:sw.cell? ⟨dK,3,none⟩=some (.slice dM bX.length dN):=(af cr.out 3).trans rfl;have xP:sw.cell? ⟨dK,4,none⟩=some (.string bC):=(af cr.out 4).trans rfl;have Aj:sw.cell? ⟨dK,5,none⟩=some (.string ck):=(af cr.out 5).trans rfl;have Ak:sw.cell? ⟨dK,6,none⟩=some (.bool cm):=(af cr.out 6).trans rfl;have Al:sw.cell? ⟨dK,7,none⟩=some (.slice dR bO.length dO):=(af cr.out 7).trans rfl;have sW:=aa cr.out 0;have sX:=aa cr.out 1;have sY:=aa cr.out 2;have xQ:=aa cr.out 3;have xR:=aa cr.out 4;have Am:=aa cr.out 5;have Ao:=aa cr.out 6;have Ap:=aa cr.out 7)|((with_reducible refine aU (f:=89) rfl ?_);refine cB (some 10) rfl rfl Tryz.func89 av rfl #[.agg #[.int .u8 aI,.string aZ,.bool bp,.slice dM bX.length dN,.string bC,.string ck,.bool cm,.slice dR bO.length dO]] rfl cX ?_;(with_reducible refine (bU.calls k aI aZ bp _ _ bX bC ck cm _ _ bO wz _ ?aW ?bY ?eO ?gP ?jN A4.out).mono ?_);(case aW=>repeat (first|exact (Kd.eF mH.out HB.out)|(with_reducible refine Kd.dZ ?_ _)|(with_reducible refine Kd.eo ?_ _)|(with_reducible refine Kd.eZ ?_)));(case bY=>exact mI.out);(case eO=>repeat (first|exact (Kd.eF n7.out HB.out)|(with_reducible refine Kd.dZ ?_ _)|(with_reducible refine Kd.eo ?_ _)|(with_reducible refine Kd.eZ ?_)));(case gP=>exact qJ.out);(case jN=>exact aQ.below HG.out kJ);rintro e SJ ⟨rfl,hb⟩;refine ⟨_,rfl,?_⟩;have bL:=ah.mk (aX (g:=dK) (o:= .cells #[.int .u8 aI,.string aZ,.bool bp,.slice dM bX.length dN,.string bC,.string ck,.bool cm,.slice dR bO.length dO] 35 (0,0)) pV hb);have bS:=ah.mk (aC kJ hb);clear cr;clear HB;have cr:=bL;have HB:=bS;clear bL bS;(try clear hb);(try clear hb2);(try clear hk);(try clear hi))|((with_reducible refine aU (f:=35) rfl ?_);refine cB (some 11) rfl rfl Tryz.func35 av rfl #[.string wz] rfl cX ?_;(with_reducible refine (ak.calls k wz KY YV abO abP abQ abR abS abT KZ _ ?aW A5.out).mono ?_);(case aW=>exact aQ.below HG.out kJ);rintro e nj ⟨aep,aer,rfl,ho0,ud,hb⟩;refine ⟨_,rfl,?_⟩;have bL:=ah.mk (Kd.kr ho0 (fL kJ));have bS:=ah.mk (Kd.kr ud (fL kJ));have cG:=ah.mk (aX (g:=dK) (o:= .cells #[.int .u8 aI,.string aZ,.bool bp,.slice dM bX.length dN,.string bC,.string ck,.bool cm,.slice dR bO.length dO] 35 (0,0)) pV hb);have dA:=ah.mk (aC kJ hb);clear cr;clear HB;have wk:=bL;have wm:=bS;have cr:=cG;have HB:=dA;clear bL bS cG dA;(try clear hb);(try clear hb2);(try clear hk);(try clear hi);(try clear ho0);(try clear ud))|((with_reducible refine cQ (N:=3) rfl ?_);refine cE ?hg (N:=3) ?hd (cs:=#[.int .u8 0,.string (⟨#[]⟩:ByteArray),.bool false,.slice none 0 0,.string (⟨#[]⟩:ByteArray),.string (⟨#[]⟩:ByteArray),.bool false,.slice none 0 0]) (t:=35) ?hr ?_;(case hd=>rfl);(case hg=>rfl);(case hr=>first|(go_simp;done)|(go_simp;rfl));intro jm hg GK cY hb;have bL:=ah.mk (Kd.fB Ie hb);have bS:=ah.mk (Kd.fB Ig hb);have cG:=ah.mk (aX (g:=dK) (o:= .cells #[.int .u8 aI,.string aZ,.bool bp,.slice dM bX.length dN,.string bC,.string ck,.bool cm,.slice dR bO.length dO] 35 (0,0)) pV hb);have dA:=ah.mk (aC kJ hb);have mG:=ah.mk (cY);have rS:=ah.mk ((BJ:w.heap.size≤jm));have sL:=ah.mk ((BJ:w.heap.size≤jm));have Ml:=ah.mk ((NL:dK≠jm));have RF:=ah.mk ((NM:jm≠dK));clear wk;clear wm;clear cr;clear HB;have wk:=bL;have wm:=bS;have cr:=cG;have HB:=dA;have gK:=mG;have aak:=rS;have Uh:=sL;have uh:=Ml;have uj:=RF;clear bL bS cG dA mG rS sL Ml RF;clear hb cY hg;have adF:=uj.out;have adG:=uh.out;have nu:GK.cell? ⟨jm,0,none⟩=some (.int .u8 0):=(af gK.out 0).trans rfl;have nv:GK.cell? ⟨jm,1,none⟩=some (.string (⟨#[]⟩:ByteArray)):=(af gK.out 1).trans rfl;have qp:GK.cell? ⟨jm,2,none⟩=some (.bool false):=(af gK.out 2).trans rfl;have sM:GK.cell? ⟨jm,3,none⟩=some (.slice none 0 0):=(af gK.out 3).trans rfl;have sN:GK.cell? ⟨jm,4,none⟩=some (.string (⟨#[]⟩:ByteArray)):=(af gK.out 4).trans rfl;have RY:GK.cell? ⟨jm,5,none⟩=some (.string (⟨#[]⟩:ByteArray)):=(af gK.out 5).trans rfl;have RZ:GK.cell? ⟨jm,6,none⟩=some (.bool false):=(af gK.out 6).trans rfl;have R3:GK.cell? ⟨jm,7,none⟩=some (.slice none 0 0):=(af gK.out 7).trans rfl;have ny:=aa gK.out 0;have nA:=aa gK.out 1;have qq:=aa gK.out 2;have sO:=aa gK.out 3;have sP:=aa gK.out 4;have R4:=aa gK.out 5;have R5:=aa gK.out 6;have R6:=aa gK.out 7;obtain ⟨pN,pO,aaX⟩:=Kd.fI wk.out;subst aaX;obtain ⟨amJ,amK,aiZ⟩:=Kd.fI wm.out;subst aiZ;have Qj:GK.cell? ⟨dK,0,none⟩=some (.int .u8 aI):=(af cr.out 0).trans rfl;have Qk:GK.cell? ⟨dK,1,none⟩=some (.string aZ):=(af cr.out 1).trans rfl;have Ql:GK.cell? ⟨dK,2,none⟩=some (.bool bp):=(af cr.out 2).trans rfl;have Qm:GK.cell? ⟨dK,3,none⟩=some (.slice dM bX.length dN):=(af cr.out 3).trans rfl;have Qn:GK.cell? ⟨dK,4,none⟩=some (.string bC):=(af cr.out 4).trans rfl;have aha:GK.cell? ⟨dK,5,none⟩=some (.string ck):=(af cr.out 5).trans rfl;have ahb:GK.cell? ⟨dK,6,none⟩=some (.bool cm):=(af cr.out 6).trans rfl;have ahc:GK.cell? ⟨dK,7,none⟩=some (.slice dR bO.length dO):=(af cr.out 7).trans rfl;have Qo:=aa cr.out 0;have Qp:=aa cr.out 1;have Qq:=aa cr.out 2;have Qr:=aa cr.out 3;have Qs:=aa cr.out 4;have ahd:=aa cr.out 5;have ahe:=aa cr.out 6;have ahf:=aa cr.out 7))
    go_ret
    exact ⟨cO,NU⟩
   ·rw [if_neg c7] at H
    have wU:(KY == aI)=false:=beq_eq_false_iff_ne.mpr c7
    have Gg:(KY != aI)=true:=bne_iff_ne.mpr c7
    obtain rfl:=Option.some.inj H
    go_enter Tryz.func34,Tryz.ntmps34
    go_wp2_with (first|((with_reducible refine cQ (N:=1) rfl ?_);refine cE ?hg (N:=1) ?hd (cs:=#[.int .u8 aI,.string aZ,.bool bp,.slice dM bX.length dN,.string bC,.string ck,.bool cm,.slice dR bO.length dO]) (t:=35) ?hr ?_;(case hd=>rfl);(case hg=>rfl);(case hr=>first|(go_simp;done)|(go_simp;rfl));intro dK hg Nz cY hb;have bL:=ah.mk (aC cw hb);have bS:=ah.mk (cY);have cG:=ah.mk ((dQ:w.heap.size≤dK));have dA:=ah.mk ((dQ:w.heap.size≤dK));clear HB;have HB:=bL;have cr:=bS;have VU:=cG;have Gx:=dA;clear bL bS cG dA;clear hb cY hg;have xX:Nz.cell? ⟨dK,0,none⟩=some (.int .u8 aI):=(af cr.out 0).trans rfl;have xY:Nz.cell? ⟨dK,1,none⟩=some (.string aZ):=(af cr.out 1).trans rfl;have xZ:Nz.cell? ⟨dK,2,none⟩=some (.bool bp):=(af cr.out 2).trans rfl;have D6:Nz.cell? ⟨dK,3,none⟩=some (.slice dM bX.length dN):=(af cr.out 3).trans rfl;have D7:Nz.cell? ⟨dK,4,none⟩=some (.string bC):=(af cr.out 4).trans rfl;have Jp:Nz.cell? ⟨dK,5,none⟩=some (.string ck):=(af cr.out 5).trans rfl;have Jq:Nz.cell? ⟨dK,6,none⟩=some (.bool cm):=(af cr.out 6).trans rfl;have Jr:Nz.cell? ⟨dK,7,none⟩=some (.slice dR bO.length dO):=(af cr.out 7).trans rfl;have ya:=aa cr.out 0;have yc:=aa cr.out 1;have yf:=aa cr.out 2;have D8:=aa cr.out 3;have D9:=aa cr.out 4;have Js:=aa cr.out 5;have Jt:=aa cr.out 6;have Ju:=aa cr.out 7)|((with_reducible refine aU (f:=90) rfl ?_);refine cB (some 6) rfl rfl Tryz.func90 av rfl #[.agg #[.int .u8 aI,.string aZ,.bool bp,.slice dM bX.length dN,.string bC,.string ck,.bool cm,.slice dR bO.length dO]] rfl cX ?_;(with_reducible refine (fq.calls k aI aZ bp _ _ bX bC ck cm _ _ bO true _ ?aW ?bY ?eO ?gP ?jN A2.out).mono ?_);(case aW=>repeat (first|exact (Kd.eF mH.out HB.out)|(with_reducible refine Kd.dZ ?_ _)|(with_reducible refine Kd.eo ?_ _)|(with_reducible refine Kd.eZ ?_)));(case bY=>exact mI.out);(case eO=>repeat (first|exact (Kd.eF n7.out HB.out)|(with_reducible refine Kd.dZ ?_ _)|(with_reducible refine Kd.eo ?_ _)|(with_reducible refine Kd.eZ ?_)));(case gP=>exact qJ.out);(case jN=>exact aQ.below HG.out kJ);rintro e Fb ⟨rfl,hb⟩;refine ⟨_,rfl,?_⟩;have bL:=ah.mk (aX (g:=dK) (o:= .cells #[.int .u8 aI,.string aZ,.bool bp,.slice dM bX.length dN,.string bC,.string ck,.bool cm,.slice dR bO.length dO] 35 (0,0)) pV hb);have bS:=ah.mk (aC kJ hb);clear cr;clear HB;have cr:=bL;have HB:=bS;clear bL bS;(try clear hb);(try clear hb2);(try clear hk);(try clear hi);have Ej:Fb.cell? ⟨dK,0,none⟩=some (.int .u8 aI):=(af cr.out 0).trans rfl;have Ek:Fb.cell? ⟨dK,1,none⟩=some (.string aZ):=(af cr.out 1).trans rfl;have El:Fb.cell? ⟨dK,2,none⟩=some (.bool bp):=(af cr.out 2).trans rfl;have RJ:Fb.cell? ⟨dK,3,none⟩=some (.slice dM bX.length dN):=(af cr.out 3).trans rfl;have RL:Fb.cell? ⟨dK,4,none⟩=some (.string bC):=(af cr.out 4).trans rfl;have ahg:Fb.cell? ⟨dK,5,none⟩=some (.string ck):=(af cr.out 5).trans rfl;have ahh:Fb.cell? ⟨dK,6,none⟩=some (.bool cm):=(af cr.out 6).trans rfl;have ahi:Fb.cell? ⟨dK,7,none⟩=some (.slice dR bO.length dO):=(af cr.out 7).trans rfl;have Em:=aa cr.out 0;have En:=aa cr.out 1;have Eo:=aa cr.out 2;have RM:=aa cr.out 3;have RN:=aa cr.out 4;have ahj:=aa cr.out 5;have ahk:=aa cr.out 6;have ahl:=aa cr.out 7)|((with_reducible refine aU (f:=89) rfl ?_);refine cB (some 10) rfl rfl Tryz.func89 av rfl #[.agg #[.int .u8 aI,.string aZ,.bool bp,.slice dM bX.length dN,.string bC,.string ck,.bool cm,.slice dR bO.length dO]] rfl cX ?_;(with_reducible refine (bU.calls k aI aZ bp _ _ bX bC ck cm _ _ bO wz _ ?aW ?bY ?eO ?gP ?jN A4.out).mono ?_);(case aW=>repeat (first|exact (Kd.eF mH.out HB.out)|(with_reducible refine Kd.dZ ?_ _)|(with_reducible refine Kd.eo ?_ _)|(with_reducible refine Kd.eZ ?_)));(case bY=>exact mI.out);(case eO=>repeat (first|exact (Kd.eF n7.out HB.out)|(with_reducible refine Kd.dZ ?_ _)|(with_reducible refine Kd.eo ?_ _)|(with_reducible refine Kd.eZ ?_)));(case gP=>exact qJ.out);(case jN=>exact aQ.below HG.out kJ);rintro e KN ⟨rfl,hb⟩;refine ⟨_,rfl,?_⟩;have bL:=ah.mk (aX (g:=dK) (o:= .cells #[.int .u8 aI,.string aZ,.bool bp,.slice dM bX.length dN,.string bC,.string ck,.bool cm,.slice dR bO.length dO] 35 (0,0)) pV hb);have bS:=ah.mk (aC kJ hb);clear cr;clear HB;have cr:=bL;have HB:=bS;clear bL bS;(try clear hb);(try clear hb2);(try clear hk);(try clear hi))|((with_reducible refine aU (f:=35) rfl ?_);refine cB (some 11) rfl rfl Tryz.func35 av rfl #[.string wz] rfl cX ?_;(with_reducible refine (ak.calls k wz KY YV abO abP abQ abR abS abT KZ _ ?aW A5.out).mono ?_);(case aW=>exact aQ.below HG.out kJ);rintro e TS ⟨aep,aer,rfl,ho0,ud,hb⟩;refine ⟨_,rfl,?_⟩;have bL:=ah.mk (Kd.kr ho0 (fL kJ));have bS:=ah.mk (Kd.kr ud (fL kJ));have cG:=ah.mk (aX (g:=dK) (o:= .cells #[.int .u8 aI,.string aZ,.bool bp,.slice dM bX.length dN,.string bC,.string ck,.bool cm,.slice dR bO.length dO] 35 (0,0)) pV hb);have dA:=ah.mk (aC kJ hb);clear cr;clear HB;have wk:=bL;have wm:=bS;have cr:=cG;have HB:=dA;clear bL bS cG dA;(try clear hb);(try clear hb2);(try clear hk);(try clear hi);(try clear ho0);(try clear ud))|((with_reducible refine cQ (N:=3) rfl ?_);refine cE ?hg (N:=3) ?hd (cs:=#[.int .u8 0,.string (⟨#[]⟩:ByteArray),.bool false,.slice none 0 0,.string (⟨#[]⟩:ByteArray),.string (⟨#[]⟩:ByteArray),.bool false,.slice none 0 0]) (t:=35) ?hr ?_;(case hd=>rfl);(case hg=>rfl);(case hr=>first|(go_simp;done)|(go_simp;rfl));intro jm hg zO cY hb;have bL:=ah.mk (Kd.fB Ie hb);have bS:=ah.mk (Kd.fB Ig hb);have cG:=ah.mk (aX (g:=dK) (o:= .cells #[.int .u8 aI,.string aZ,.bool bp,.slice dM bX.length dN,.string bC,.string ck,.bool cm,.slice dR bO.length dO] 35 (0,0)) pV hb);have dA:=ah.mk (aC kJ hb);have mG:=ah.mk (cY);have rS:=ah.mk ((BJ:w.heap.size≤jm));have sL:=ah.mk ((BJ:w.heap.size≤jm));have Ml:=ah.mk ((NL:dK≠jm));have RF:=ah.mk ((NM:jm≠dK));clear wk;clear wm;clear cr;clear HB;have wk:=bL;have wm:=bS;have cr:=cG;have HB:=dA;have gK:=mG;have aak:=rS;have Uh:=sL;have uh:=Ml;have uj:=RF;clear bL bS cG dA mG rS sL Ml RF;clear hb cY hg;have ZO:=uj.out;have ZP:=uh.out;have yB:zO.cell? ⟨jm,0,none⟩=some (.int .u8 0):=(af gK.out 0).trans rfl;have yC:zO.cell? ⟨jm,1,none⟩=some (.string (⟨#[]⟩:ByteArray)):=(af gK.out 1).trans rfl;have yD:zO.cell? ⟨jm,2,none⟩=some (.bool false):=(af gK.out 2).trans rfl;have Ay:zO.cell? ⟨jm,3,none⟩=some (.slice none 0 0):=(af gK.out 3).trans rfl;have Az:zO.cell? ⟨jm,4,none⟩=some (.string (⟨#[]⟩:ByteArray)):=(af gK.out 4).trans rfl;have AA:zO.cell? ⟨jm,5,none⟩=some (.string (⟨#[]⟩:ByteArray)):=(af gK.out 5).trans rfl;have AB:zO.cell? ⟨jm,6,none⟩=some (.bool false):=(af gK.out 6).trans rfl;have AE:zO.cell? ⟨jm,7,none⟩=some (.slice none 0 0):=(af gK.out 7).trans rfl;have yE:=aa gK.out 0;have yF:=aa gK.out 1;have yG:=aa gK.out 2;have AG:=aa gK.out 3;have AH:=aa gK.out 4;have AJ:=aa gK.out 5;have AK:=aa gK.out 6;have AL:=aa gK.out 7;obtain ⟨amL,amM,ai0⟩:=Kd.fI wk.out;subst ai0;obtain ⟨amN,amO,ai1⟩:=Kd.fI wm.out;subst ai1;have yH:zO.cell? ⟨dK,0,none⟩=some (.int .u8 aI):=(af cr.out 0).trans rfl;have yI:zO.cell? ⟨dK,1,none⟩=some (.string aZ):=(af cr.out 1).trans rfl;have Bf:zO.cell? ⟨dK,2,none⟩=some (.bool bp):=(af cr.out 2).trans rfl;have XR:zO.cell? ⟨dK,3,none⟩=some (.slice dM bX.length dN):=(af cr.out 3).trans rfl;have XS:zO.cell? ⟨dK,4,none⟩=some (.string bC):=(af cr.out 4).trans rfl;have ahm:zO.cell? ⟨dK,5,none⟩=some (.string ck):=(af cr.out 5).trans rfl;have ahn:zO.cell? ⟨dK,6,none⟩=some (.bool cm):=(af cr.out 6).trans rfl;have aho:zO.cell? ⟨dK,7,none⟩=some (.slice dR bO.length dO):=(af cr.out 7).trans rfl;have yJ:=aa cr.out 0;have yK:=aa cr.out 1;have Bg:=aa cr.out 2;have XT:=aa cr.out 3;have XU:=aa cr.out 4;have ahp:=aa cr.out 5;have ahq:=aa cr.out 6;have ahr:=aa cr.out 7))
    go_ret
    exact ⟨cO,NU⟩
  ·rw [if_neg c6] at H
   have pP:(KZ == 0)=false:=beq_eq_false_iff_ne.mpr c6
   have BU:(KZ != 0)=true:=bne_iff_ne.mpr c6
   obtain rfl:=Option.some.inj H
   go_enter Tryz.func34,Tryz.ntmps34
   go_wp2_with (first|((with_reducible refine cQ (N:=1) rfl ?_);refine cE ?hg (N:=1) ?hd (cs:=#[.int .u8 aI,.string aZ,.bool bp,.slice dM bX.length dN,.string bC,.string ck,.bool cm,.slice dR bO.length dO]) (t:=35) ?hr ?_;(case hd=>rfl);(case hg=>rfl);(case hr=>first|(go_simp;done)|(go_simp;rfl));intro dK hg Fa cY hb;have bL:=ah.mk (aC cw hb);have bS:=ah.mk (cY);have cG:=ah.mk ((dQ:w.heap.size≤dK));have dA:=ah.mk ((dQ:w.heap.size≤dK));clear HB;have HB:=bL;have cr:=bS;have VU:=cG;have Gx:=dA;clear bL bS cG dA;clear hb cY hg;have Rn:Fa.cell? ⟨dK,0,none⟩=some (.int .u8 aI):=(af cr.out 0).trans rfl;have Ro:Fa.cell? ⟨dK,1,none⟩=some (.string aZ):=(af cr.out 1).trans rfl;have XV:Fa.cell? ⟨dK,2,none⟩=some (.bool bp):=(af cr.out 2).trans rfl;have XW:Fa.cell? ⟨dK,3,none⟩=some (.slice dM bX.length dN):=(af cr.out 3).trans rfl;have XX:Fa.cell? ⟨dK,4,none⟩=some (.string bC):=(af cr.out 4).trans rfl;have ahs:Fa.cell? ⟨dK,5,none⟩=some (.string ck):=(af cr.out 5).trans rfl;have aht:Fa.cell? ⟨dK,6,none⟩=some (.bool cm):=(af cr.out 6).trans rfl;have ahu:Fa.cell? ⟨dK,7,none⟩=some (.slice dR bO.length dO):=(af cr.out 7).trans rfl;have Rp:=aa cr.out 0;have Rq:=aa cr.out 1;have XY:=aa cr.out 2;have XZ:=aa cr.out 3;have X0:=aa cr.out 4;have ahv:=aa cr.out 5;have ahw:=aa cr.out 6;have ahx:=aa cr.out 7)|((with_reducible refine aU (f:=90) rfl ?_);refine cB (some 6) rfl rfl Tryz.func90 av rfl #[.agg #[.int .u8 aI,.string aZ,.bool bp,.slice dM bX.length dN,.string bC,.string ck,.bool cm,.slice dR bO.length dO]] rfl cX ?_;(with_reducible refine (fq.calls k aI aZ bp _ _ bX bC ck cm _ _ bO true _ ?aW ?bY ?eO ?gP ?jN A2.out).mono ?_);(case aW=>repeat (first|exact (Kd.eF mH.out HB.out)|(with_reducible refine Kd.dZ ?_ _)|(with_reducible refine Kd.eo ?_ _)|(with_reducible refine Kd.eZ ?_)));(case bY=>exact mI.out);(case eO=>repeat (first|exact (Kd.eF n7.out HB.out)|(with_reducible refine Kd.dZ ?_ _)|(with_reducible refine Kd.eo ?_ _)|(with_reducible refine Kd.eZ ?_)));(case gP=>exact qJ.out);(case jN=>exact aQ.below HG.out kJ);rintro e TT ⟨rfl,hb⟩;refine ⟨_,rfl,?_⟩;have bL:=ah.mk (aX (g:=dK) (o:= .cells #[.int .u8 aI,.string aZ,.bool bp,.slice dM bX.length dN,.string bC,.string ck,.bool cm,.slice dR bO.length dO] 35 (0,0)) pV hb);have bS:=ah.mk (aC kJ hb);clear cr;clear HB;have cr:=bL;have HB:=bS;clear bL bS;(try clear hb);(try clear hb2);(try clear hk);(try clear hi);have AO:TT.cell? ⟨dK,0,none⟩=some (.int .u8 aI):=(af cr.out 0).trans rfl;have AP:TT.cell? ⟨dK,1,none⟩=some (.string aZ):=(af cr.out 1).trans rfl;have AQ:TT.cell? ⟨dK,2,none⟩=some (.bool bp):=(af cr.out 2).trans rfl;have Rc:TT.cell? ⟨dK,3,none⟩=some (.slice dM bX.length dN):=(af cr.out 3).trans rfl;have Re:TT.cell? ⟨dK,4,none⟩=some (.string bC):=(af cr.out 4).trans rfl;have Xm:TT.cell? ⟨dK,5,none⟩=some (.string ck):=(af cr.out 5).trans rfl;have Xn:TT.cell? ⟨dK,6,none⟩=some (.bool cm):=(af cr.out 6).trans rfl;have Xo:TT.cell? ⟨dK,7,none⟩=some (.slice dR bO.length dO):=(af cr.out 7).trans rfl;have AR:=aa cr.out 0;have AU:=aa cr.out 1;have AV:=aa cr.out 2;have Rf:=aa cr.out 3;have Rg:=aa cr.out 4;have Xp:=aa cr.out 5;have Xq:=aa cr.out 6;have Xr:=aa cr.out 7)|((with_reducible refine aU (f:=89) rfl ?_);refine cB (some 10) rfl rfl Tryz.func89 av rfl #[.agg #[.int .u8 aI,.string aZ,.bool bp,.slice dM bX.length dN,.string bC,.string ck,.bool cm,.slice dR bO.length dO]] rfl cX ?_;(with_reducible refine (bU.calls k aI aZ bp _ _ bX bC ck cm _ _ bO wz _ ?aW ?bY ?eO ?gP ?jN A4.out).mono ?_);(case aW=>repeat (first|exact (Kd.eF mH.out HB.out)|(with_reducible refine Kd.dZ ?_ _)|(with_reducible refine Kd.eo ?_ _)|(with_reducible refine Kd.eZ ?_)));(case bY=>exact mI.out);(case eO=>repeat (first|exact (Kd.eF n7.out HB.out)|(with_reducible refine Kd.dZ ?_ _)|(with_reducible refine Kd.eo ?_ _)|(with_reducible refine Kd.eZ ?_)));(case gP=>exact qJ.out);(case jN=>exact aQ.below HG.out kJ);rintro e w36 ⟨rfl,hb⟩;refine ⟨_,rfl,?_⟩;have bL:=ah.mk (aX (g:=dK) (o:= .cells #[.int .u8 aI,.string aZ,.bool bp,.slice dM bX.length dN,.string bC,.string ck,.bool cm,.slice dR bO.length dO] 35 (0,0)) pV hb);have bS:=ah.mk (aC kJ hb);clear cr;clear HB;have cr:=bL;have HB:=bS;clear bL bS;(try clear hb);(try clear hb2);(try clear hk);(try clear hi))|((with_reducible refine aU (f:=35) rfl ?_);refine cB (some 11) rfl rfl Tryz.func35 av rfl #[.string wz] rfl cX ?_;(with_reducible refine (ak.calls k wz KY YV abO abP abQ abR abS abT KZ _ ?aW A5.out).mono ?_);(case aW=>exact aQ.below HG.out kJ);rintro e w37 ⟨aep,aer,rfl,ho0,ud,hb⟩;refine ⟨_,rfl,?_⟩;have bL:=ah.mk (Kd.kr ho0 (fL kJ));have bS:=ah.mk (Kd.kr ud (fL kJ));have cG:=ah.mk (aX (g:=dK) (o:= .cells #[.int .u8 aI,.string aZ,.bool bp,.slice dM bX.length dN,.string bC,.string ck,.bool cm,.slice dR bO.length dO] 35 (0,0)) pV hb);have dA:=ah.mk (aC kJ hb);clear cr;clear HB;have wk:=bL;have wm:=bS;have cr:=cG;have HB:=dA;clear bL bS cG dA;(try clear hb);(try clear hb2);(try clear hk);(try clear hi);(try clear ho0);(try clear ud))|((with_reducible refine cQ (N:=3) rfl ?_);refine cE ?hg (N:=3) ?hd (cs:=#[.int .u8 0,.string (⟨#[]⟩:ByteArray),.bool false,.slice none 0 0,.string (⟨#[]⟩:ByteArray),.string (⟨#[]⟩:ByteArray),.bool false,.slice none 0 0]) (t:=35) ?hr ?_;(case hd=>rfl);(case hg=>rfl);(case hr=>first|(go_simp;done)|(go_simp;rfl));intro jm hg SP cY hb;have bL:=ah.mk (Kd.fB Ie hb);have bS:=ah.mk (Kd.fB Ig hb);have cG:=ah.mk (aX (g:=dK) (o:= .cells #[.int .u8 aI,.string aZ,.bool bp,.slice dM bX.length dN,.string bC,.string ck,.bool cm,.slice dR bO.length dO] 35 (0,0)) pV hb);have dA:=ah.mk (aC kJ hb);have mG:=ah.mk (cY);have rS:=ah.mk ((BJ:w.heap.size≤jm));have sL:=ah.mk ((BJ:w.heap.size≤jm));have Ml:=ah.mk ((NL:dK≠jm));have RF:=ah.mk ((NM:jm≠dK));clear wk;clear wm;clear cr;clear HB;have wk:=bL;have wm:=bS;have cr:=cG;have HB:=dA;have gK:=mG;have aak:=rS;have Uh:=sL;have uh:=Ml;have uj:=RF;clear bL bS cG dA mG rS sL Ml RF;clear hb cY hg;have adJ:=uj.out;have adK:=uh.out;have JO:SP.cell? ⟨jm,0,none⟩=some (.int .u8 0):=(af gK.out 0).trans rfl;have JP:SP.cell? ⟨jm,1,none⟩=some (.string (⟨#[]⟩:ByteArray)):=(af gK.out 1).trans rfl;have JQ:SP.cell? ⟨jm,2,none⟩=some (.bool false):=(af gK.out 2).trans rfl;have JR:SP.cell? ⟨jm,3,none⟩=some (.slice none 0 0):=(af gK.out 3).trans rfl;have JS:SP.cell? ⟨jm,4,none⟩=some (.string (⟨#[]⟩:ByteArray)):=(af gK.out 4).trans rfl;have R7:SP.cell? ⟨jm,5,none⟩=some (.string (⟨#[]⟩:ByteArray)):=(af gK.out 5).trans rfl;have R8:SP.cell? ⟨jm,6,none⟩=some (.bool false):=(af gK.out 6).trans rfl;have R9:SP.cell? ⟨jm,7,none⟩=some (.slice none 0 0):=(af gK.out 7).trans rfl;have JT:=aa gK.out 0;have JU:=aa gK.out 1;have JV:=aa gK.out 2;have JW:=aa gK.out 3;have JX:=aa gK.out 4;have Sa:=aa gK.out 5;have Sb:=aa gK.out 6;have Sc:=aa gK.out 7;obtain ⟨amP,amQ,ai2⟩:=Kd.fI wk.out;subst ai2;obtain ⟨amR,amS,ai3⟩:=Kd.fI wm.out;subst ai3))
   go_ret
   exact ⟨cO,NU⟩
 ·replace c3:=Bool.eq_false_iff.mpr c3
  subst c3
  have H1:(some false)=some r:=by rw [if_neg (show ¬ (false=true) by decide)] at H;exact H
  clear H
  have H:=H1
  clear H1
  obtain rfl:=Option.some.inj H
  go_enter Tryz.func34,Tryz.ntmps34
  go_wp2_with (first|((with_reducible refine cQ (N:=1) rfl ?_);refine cE ?hg (N:=1) ?hd (cs:=#[.int .u8 aI,.string aZ,.bool bp,.slice dM bX.length dN,.string bC,.string ck,.bool cm,.slice dR bO.length dO]) (t:=35) ?hr ?_;(case hd=>rfl);(case hg=>rfl);(case hr=>first|(go_simp;done)|(go_simp;rfl));intro dK hg RH cY hb;have bL:=ah.mk (aC cw hb);have bS:=ah.mk (cY);have cG:=ah.mk ((dQ:w.heap.size≤dK));have dA:=ah.mk ((dQ:w.heap.size≤dK));clear HB;have HB:=bL;have cr:=bS;have VU:=cG;have Gx:=dA;clear bL bS cG dA;clear hb cY hg;have ahy:RH.cell? ⟨dK,0,none⟩=some (.int .u8 aI):=(af cr.out 0).trans rfl;have ahz:RH.cell? ⟨dK,1,none⟩=some (.string aZ):=(af cr.out 1).trans rfl;have ahA:RH.cell? ⟨dK,2,none⟩=some (.bool bp):=(af cr.out 2).trans rfl;have ahB:RH.cell? ⟨dK,3,none⟩=some (.slice dM bX.length dN):=(af cr.out 3).trans rfl;have ahC:RH.cell? ⟨dK,4,none⟩=some (.string bC):=(af cr.out 4).trans rfl;have ahD:RH.cell? ⟨dK,5,none⟩=some (.string ck):=(af cr.out 5).trans rfl;have ahE:RH.cell? ⟨dK,6,none⟩=some (.bool cm):=(af cr.out 6).trans rfl;have ahF:RH.cell? ⟨dK,7,none⟩=some (.slice dR bO.length dO):=(af cr.out 7).trans rfl;have ahG:=aa cr.out 0;have ahH:=aa cr.out 1;have ahI:=aa cr.out 2;have ahJ:=aa cr.out 3;have ahK:=aa cr.out 4;have ahL:=aa cr.out 5;have ahM:=aa cr.out 6;have ahN:=aa cr.out 7)|((with_reducible refine aU (f:=90) rfl ?_);refine cB (some 6) rfl rfl Tryz.func90 av rfl #[.agg #[.int .u8 aI,.string aZ,.bool bp,.slice dM bX.length dN,.string bC,.string ck,.bool cm,.slice dR bO.length dO]] rfl cX ?_;(with_reducible refine (fq.calls k aI aZ bp _ _ bX bC ck cm _ _ bO false _ ?aW ?bY ?eO ?gP ?jN A2.out).mono ?_);(case aW=>repeat (first|exact (Kd.eF mH.out HB.out)|(with_reducible refine Kd.dZ ?_ _)|(with_reducible refine Kd.eo ?_ _)|(with_reducible refine Kd.eZ ?_)));(case bY=>exact mI.out);(case eO=>repeat (first|exact (Kd.eF n7.out HB.out)|(with_reducible refine Kd.dZ ?_ _)|(with_reducible refine Kd.eo ?_ _)|(with_reducible refine Kd.eZ ?_)));(case gP=>exact qJ.out);(case jN=>exact aQ.below HG.out kJ);rintro e w45 ⟨rfl,hb⟩;refine ⟨_,rfl,?_⟩;have bL:=ah.mk (aX (g:=dK) (o:= .cells #[.int .u8 aI,.string aZ,.bool bp,.slice dM bX.length dN,.string bC,.string ck,.bool cm,.slice dR bO.length dO] 35 (0,0)) pV hb);have bS:=ah.mk (aC kJ hb);clear cr;clear HB;have cr:=bL;have HB:=bS;clear bL bS;(try clear hb);(try clear hb2);(try clear hk);(try clear hi)))
  go_ret
  exact ⟨cO,kJ⟩
def gH.f (k:Nat) (aI:Int) (aZ:ByteArray) (bp:Bool) (bX:List ByteArray) (bC:ByteArray) (ck:ByteArray) (cm:Bool) (bO:List (gw)):Option (ByteArray×Int):=(iX.f k aI aZ bp bX bC ck cm bO).bind fun Tc=>(if Tc=true then ((bU.f k aI aZ bp bX bC ck cm bO).bind fun Gp=>(some (Gp,0))) else (some ((⟨#[]⟩:ByteArray),2)))
theorem gH.calls (k:Nat) (aI:Int) (aZ:ByteArray) (bp:Bool) (dM:Option Addr) (dN:Nat) (bX:List ByteArray) (bC:ByteArray) (ck:ByteArray) (cm:Bool) (dR:Option Addr) (dO:Nat) (bO:List (gw)) (r1:ByteArray) (r2:Int) (w:World) (qF:Kd.C Kd.string w dM bX.length bX) (qG:bX.length≤dN) (qH:Kd.C zN w dR bO.length bO) (qI:bO.length≤dO) (hG:aQ w) (h:gH.f k aI aZ bp bX bC ck cm bO=some (r1,r2)):
 Calls Tryz.prog 33 #[.agg #[.int .u8 aI,.string aZ,.bool bp,.slice dM bX.length dN,.string bC,.string ck,.bool cm,.slice dR bO.length dO]] w fun e w'=>e= .returned (.tuple #[.string r1,.int .i64 r2])∧Below w.heap.size w w':=by
 have LY:=Tryz.underlying35
 have mH:=ah.mk qF
 have mI:=ah.mk qG
 clear qF qG
 have n7:=ah.mk qH
 have qJ:=ah.mk qI
 clear qH qI
 have HB:=ah.mk (Below.refl w.heap.size w)
 have HG:=ah.mk hG
 clear hG
 have H:((iX.f k aI aZ bp bX bC ck cm bO).bind fun Tc=>(if Tc=true then ((bU.f k aI aZ bp bX bC ck cm bO).bind fun Gp=>(some (Gp,0))) else (some ((⟨#[]⟩:ByteArray),2))))=some (r1,r2):=h
 clear h
 replace H:=Option.bind_eq_some_iff.mp H
 obtain ⟨Tc,nr,H⟩:=H
 replace H:(if Tc=true then ((bU.f k aI aZ bp bX bC ck cm bO).bind fun Gp=>(some (Gp,0))) else (some ((⟨#[]⟩:ByteArray),2)))=some (r1,r2):=H
 have A2:=ah.mk nr
 clear nr
 by_cases c3:Tc=true
 ·subst c3
  have H1:((bU.f k aI aZ bp bX bC ck cm bO).bind fun Gp=>(some (Gp,0)))=some (r1,r2):=by rw [if_pos rfl] at H;exact H
  clear H
  have H:=H1
  clear H1
  replace H:=Option.bind_eq_some_iff.mp H
  obtain ⟨Gp,CC,H⟩:=H
  replace H:(some (Gp,0))=some (r1,r2):=H
  have A4:=ah.mk CC
  clear CC
  simp only [Option.some.injEq,Prod.mk.injEq] at H
  obtain ⟨rfl,rfl⟩:=H
  go_enter Tryz.func33,Tryz.ntmps33
  go_wp2_with (first|((with_reducible refine cQ (N:=1) rfl ?_);refine cE ?hg (N:=1) ?hd (cs:=#[.int .u8 aI,.string aZ,.bool bp,.slice dM bX.length dN,.string bC,.string ck,.bool cm,.slice dR bO.length dO]) (t:=35) ?hr ?_;(case hd=>rfl);(case hg=>rfl);(case hr=>first|(go_simp;done)|(go_simp;rfl));intro kD hg w5 cY hb;have bL:=ah.mk (aC cw hb);have bS:=ah.mk (cY);have cG:=ah.mk ((dQ:w.heap.size≤kD));have dA:=ah.mk ((dQ:w.heap.size≤kD));clear HB;have HB:=bL;have gm:=bS;have aes:=cG;have Zt:=dA;clear bL bS cG dA;clear hb cY hg;have UX:w5.cell? ⟨kD,0,none⟩=some (.int .u8 aI):=(af gm.out 0).trans rfl;have UY:w5.cell? ⟨kD,1,none⟩=some (.string aZ):=(af gm.out 1).trans rfl;have abG:w5.cell? ⟨kD,2,none⟩=some (.bool bp):=(af gm.out 2).trans rfl;have abH:w5.cell? ⟨kD,3,none⟩=some (.slice dM bX.length dN):=(af gm.out 3).trans rfl;have abI:w5.cell? ⟨kD,4,none⟩=some (.string bC):=(af gm.out 4).trans rfl;have ai4:w5.cell? ⟨kD,5,none⟩=some (.string ck):=(af gm.out 5).trans rfl;have ai5:w5.cell? ⟨kD,6,none⟩=some (.bool cm):=(af gm.out 6).trans rfl;have ai6:w5.cell? ⟨kD,7,none⟩=some (.slice dR bO.length dO):=(af gm.out 7).trans rfl;have UZ:=aa gm.out 0;have U0:=aa gm.out 1;have abJ:=aa gm.out 2;have abK:=aa gm.out 3;have abL:=aa gm.out 4;have ai7:=aa gm.out 5;have ai8:=aa gm.out 6;have ai9:=aa gm.out 7)|((with_reducible refine aU (f:=34) rfl ?_);refine cB (some 5) rfl rfl Tryz.func34 av rfl #[.agg #[.int .u8 aI,.string aZ,.bool bp,.slice dM bX.length dN,.string bC,.string ck,.bool cm,.slice dR bO.length dO]] rfl cX ?_;(with_reducible refine (iX.calls k aI aZ bp _ _ bX bC ck cm _ _ bO true _ ?aW ?bY ?eO ?gP ?jN A2.out).mono ?_);(case aW=>repeat (first|exact (Kd.eF mH.out HB.out)|(with_reducible refine Kd.dZ ?_ _)|(with_reducible refine Kd.eo ?_ _)|(with_reducible refine Kd.eZ ?_)));(case bY=>exact mI.out);(case eO=>repeat (first|exact (Kd.eF n7.out HB.out)|(with_reducible refine Kd.dZ ?_ _)|(with_reducible refine Kd.eo ?_ _)|(with_reducible refine Kd.eZ ?_)));(case gP=>exact qJ.out);(case jN=>exact aQ.below HG.out wD);rintro e w7 ⟨rfl,hb⟩;refine ⟨_,rfl,?_⟩;have bL:=ah.mk (aX (g:=kD) (o:= .cells #[.int .u8 aI,.string aZ,.bool bp,.slice dM bX.length dN,.string bC,.string ck,.bool cm,.slice dR bO.length dO] 35 (0,0)) Ic hb);have bS:=ah.mk (aC wD hb);clear gm;clear HB;have gm:=bL;have HB:=bS;clear bL bS;(try clear hb);(try clear hb2);(try clear hk);(try clear hi);have wL:w7.cell? ⟨kD,0,none⟩=some (.int .u8 aI):=(af gm.out 0).trans rfl;have wM:w7.cell? ⟨kD,1,none⟩=some (.string aZ):=(af gm.out 1).trans rfl;have BV:w7.cell? ⟨kD,2,none⟩=some (.bool bp):=(af gm.out 2).trans rfl;have E1:w7.cell? ⟨kD,3,none⟩=some (.slice dM bX.length dN):=(af gm.out 3).trans rfl;have E2:w7.cell? ⟨kD,4,none⟩=some (.string bC):=(af gm.out 4).trans rfl;have abr:w7.cell? ⟨kD,5,none⟩=some (.string ck):=(af gm.out 5).trans rfl;have abt:w7.cell? ⟨kD,6,none⟩=some (.bool cm):=(af gm.out 6).trans rfl;have abu:w7.cell? ⟨kD,7,none⟩=some (.slice dR bO.length dO):=(af gm.out 7).trans rfl;have wN:=aa gm.out 0;have wO:=aa gm.out 1;have BW:=aa gm.out 2;have E3:=aa gm.out 3;have E4:=aa gm.out 4;have abv:=aa gm.out 5;have abw:=aa gm.out 6;have abx:=aa gm.out 7)|((with_reducible refine aU (f:=89) rfl ?_);refine cB (some 8) rfl rfl Tryz.func89 av rfl #[.agg #[.int .u8 aI,.string aZ,.bool bp,.slice dM bX.length dN,.string bC,.string ck,.bool cm,.slice dR bO.length dO]] rfl cX ?_;(with_reducible refine (bU.calls k aI aZ bp _ _ bX bC ck cm _ _ bO Gp _ ?aW ?bY ?eO ?gP ?jN A4.out).mono ?_);(case aW=>repeat (first|exact (Kd.eF mH.out HB.out)|(with_reducible refine Kd.dZ ?_ _)|(with_reducible refine Kd.eo ?_ _)|(with_reducible refine Kd.eZ ?_)));(case bY=>exact mI.out);(case eO=>repeat (first|exact (Kd.eF n7.out HB.out)|(with_reducible refine Kd.dZ ?_ _)|(with_reducible refine Kd.eo ?_ _)|(with_reducible refine Kd.eZ ?_)));(case gP=>exact qJ.out);(case jN=>exact aQ.below HG.out wD);rintro e w9 ⟨rfl,hb⟩;refine ⟨_,rfl,?_⟩;have bL:=ah.mk (aX (g:=kD) (o:= .cells #[.int .u8 aI,.string aZ,.bool bp,.slice dM bX.length dN,.string bC,.string ck,.bool cm,.slice dR bO.length dO] 35 (0,0)) Ic hb);have bS:=ah.mk (aC wD hb);clear gm;clear HB;have gm:=bL;have HB:=bS;clear bL bS;(try clear hb);(try clear hb2);(try clear hk);(try clear hi)))
  go_ret2
  exact ⟨cO,wD⟩
 ·replace c3:=Bool.eq_false_iff.mpr c3
  subst c3
  have H1:(some ((⟨#[]⟩:ByteArray),2))=some (r1,r2):=by rw [if_neg (show ¬ (false=true) by decide)] at H;exact H
  clear H
  have H:=H1
  clear H1
  simp only [Option.some.injEq,Prod.mk.injEq] at H
  obtain ⟨rfl,rfl⟩:=H
  go_enter Tryz.func33,Tryz.ntmps33
  go_wp2_with (first|((with_reducible refine cQ (N:=1) rfl ?_);refine cE ?hg (N:=1) ?hd (cs:=#[.int .u8 aI,.string aZ,.bool bp,.slice dM bX.length dN,.string bC,.string ck,.bool cm,.slice dR bO.length dO]) (t:=35) ?hr ?_;(case hd=>rfl);(case hg=>rfl);(case hr=>first|(go_simp;done)|(go_simp;rfl));intro kD hg sw cY hb;have bL:=ah.mk (aC cw hb);have bS:=ah.mk (cY);have cG:=ah.mk ((dQ:w.heap.size≤kD));have dA:=ah.mk ((dQ:w.heap.size≤kD));clear HB;have HB:=bL;have gm:=bS;have aes:=cG;have Zt:=dA;clear bL bS cG dA;clear hb cY hg;have sS:sw.cell? ⟨kD,0,none⟩=some (.int .u8 aI):=(af gm.out 0).trans rfl;have sU:sw.cell? ⟨kD,1,none⟩=some (.string aZ):=(af gm.out 1).trans rfl;have sV:sw.cell? ⟨kD,2,none⟩=some (.bool bp):=(af gm.out 2).trans rfl;have xO:sw.cell? ⟨kD,3,none⟩=some (.slice dM bX.length dN):=(af gm.out 3).trans rfl;have xP:sw.cell? ⟨kD,4,none⟩=some (.string bC):=(af gm.out 4).trans rfl;have Aj:sw.cell? ⟨kD,5,none⟩=some (.string ck):=(af gm.out 5).trans rfl;have Ak:sw.cell? ⟨kD,6,none⟩=some (.bool cm):=(af gm.out 6).trans rfl;have Al:sw.cell? ⟨kD,7,none⟩=some (.slice dR bO.length dO):=(af gm.out 7).trans rfl;have sW:=aa gm.out 0;have sX:=aa gm.out 1;have sY:=aa gm.out 2;have xQ:=aa gm.out 3;have xR:=aa gm.out 4;have Am:=aa gm.out 5;have Ao:=aa gm.out 6;have Ap:=aa gm.out 7)|((with_reducible refine aU (f:=34) rfl ?_);refine cB (some 5) rfl rfl Tryz.func34 av rfl #[.agg #[.int .u8 aI,.string aZ,.bool bp,.slice dM bX.length dN,.string bC,.string ck,.bool cm,.slice dR bO.length dO]] rfl cX ?_;(with_reducible refine (iX.calls k aI aZ bp _ _ bX bC ck cm _ _ bO false _ ?aW ?bY ?eO ?gP ?jN A2.out).mono ?_);(case aW=>repeat (first|exact (Kd.eF mH.out HB.out)|(with_reducible refine Kd.dZ ?_ _)|(with_reducible refine Kd.eo ?_ _)|(with_reducible refine Kd.eZ ?_)));(case bY=>exact mI.out);(case eO=>repeat (first|exact (Kd.eF n7.out HB.out)|(with_reducible refine Kd.dZ ?_ _)|(with_reducible refine Kd.eo ?_ _)|(with_reducible refine Kd.eZ ?_)));(case gP=>exact qJ.out);(case jN=>exact aQ.below HG.out wD);rintro e SJ ⟨rfl,hb⟩;refine ⟨_,rfl,?_⟩;have bL:=ah.mk (aX (g:=kD) (o:= .cells #[.int .u8 aI,.string aZ,.bool bp,.slice dM bX.length dN,.string bC,.string ck,.bool cm,.slice dR bO.length dO] 35 (0,0)) Ic hb);have bS:=ah.mk (aC wD hb);clear gm;clear HB;have gm:=bL;have HB:=bS;clear bL bS;(try clear hb);(try clear hb2);(try clear hk);(try clear hi)))
  go_ret2
  exact ⟨cO,wD⟩
end Go.Proofs.YtokpnfljjjjikaaGreatDoor.nK
