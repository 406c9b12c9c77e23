import Derived.Test.YtokpnfljjjjikaaGreatDoorQCbx16
set_option maxHeartbeats 8000000
set_option maxRecDepth 100000
namespace Go.Proofs.YtokpnfljjjjikaaGreatDoor.n9
open Go.RowKit Go.Proofs.aj.bQ Go.Proofs.aj.gf Go.Proofs.aj.cT
attribute [local go_sem] jt iY kQ kJ iJ iK ju jv
set_option linter.unusedVariables false
set_option linter.unusedSimpArgs false
attribute [local go_sem high] WN
def aX.l0:Nat→List (gI)→Int→Int→Option (Int)
 | 0,_,_,_ =>none
 |k + 1,x0,x7,x8=>if x8 < x7 then (if 0≤x8 then (if x8 < (x0.length:Int) then ((jz.f k ((cv x0 x8).f0) ((cv x0 x8).f1) ((cv x0 x8).f2)).bind fun abg=>(if abg=true then (some x8) else (aX.l0 k x0 x7 (wrap64 (x8 + 1))))) else (none)) else (none)) else (some (-1))
def aX.f (k:Nat) (l0:List (gI)):Option (Int):=aX.l0 k l0 (l0.length:Int) 0
theorem aX.calls (k:Nat) (A0:Option Addr) (c0:Nat) (l0:List (gI)) (r:Int) (w:World) (Bk:Kd.C BC w A0 l0.length l0) (hc0:l0.length≤c0) (h:aX.f k l0=some r):
 Calls Tryz.prog 175 #[.slice A0 l0.length c0,.func (.func 137) #[] #[]] w fun e w'=>e= .returned (.int .i64 r)∧Below w.heap.size w w':=by
 have UR:=Tryz.underlying58
 have yI:=ah.mk Bk
 have S3:=ah.mk hc0
 clear Bk hc0
 have HB:=ah.mk (Below.refl w.heap.size w)
 have H:(aX.l0 k l0 (l0.length:Int) 0)=some r:=h
 clear h
 have H':=ah.mk H
 clear H
 go_enter Tryz.func175,Tryz.ntmps175
 go_wp2
 go_loopg [8] k (fun kq v8 w'=>∃ (eW:Int),v8= .int .i64 eW∧ah (aX.l0 kq l0 (l0.length:Int) eW=some r)∧ah (kq≤k)∧ah (Below w.heap.size w w'))
 case atStart=>exact ⟨(0),dL,H',⟨Nat.le_refl _⟩,⟨cA⟩⟩
 case round=>
  clear H'
  try clear c1
  try clear p2
  obtain ⟨eW,rfl,HA,wS,HB⟩:=hrel
  cases gk with
  |zero=>exact absurd HA.out (by simp [aX.l0])
  |succ k1=>
   have H:=HA.out
   clear HA
   simp only [aX.l0] at H
   by_cases c3:eW < (l0.length:Int)
   ·rw [if_pos c3] at H
    have rD:decide (eW < (l0.length:Int))=true:=decide_eq_true c3
    clear c3
    by_cases c4: 0≤eW
    ·rw [if_pos c4] at H
     have nP:decide (0≤eW)=true:=decide_eq_true c4
     clear c4
     by_cases c5:eW < (l0.length:Int)
     ·rw [if_pos c5] at H
      have vZ:decide (eW < (l0.length:Int))=true:=decide_eq_true c5
      clear c5
      replace H:=Option.bind_eq_some_iff.mp H
      obtain ⟨abg,yF,H⟩:=H
      replace H:(if abg=true then (some eW) else (aX.l0 k1 l0 (l0.length:Int) (wrap64 (eW + 1))))=some r:=H
      have A6:=ah.mk yF
      clear yF
      by_cases c7:abg=true
      ·subst c7
       have H1:(some eW)=some r:=by rw [if_pos rfl] at H;exact H
       clear H
       have H:=H1
       clear H1
       obtain rfl:=Option.some.inj H
       have QB: 0≤(eW:Int):=of_decide_eq_true cO
       have QC:eW < (l0.length:Int):=of_decide_eq_true cO
       obtain ⟨agN,aee,xY,xZ,ya⟩:=vY yI.out eW QB QC
       cases aee
       replace xY:=(HB.out.cell (World.block_lt_of_cell? w _ xY)).trans xY
       replace xZ:=(HB.out.cell (World.block_lt_of_cell? w _ xZ)).trans xZ
       replace ya:=(HB.out.cell (World.block_lt_of_cell? w _ ya)).trans ya
       replace QB:=eq_true QB
       replace QC:=eq_true QC
       go_wp2_with (first|(go_at_call 137;(with_reducible refine (jz.calls k1 ((cv l0 eW).f0) ((cv l0 eW).f1) ((cv l0 eW).f2) true _ A6.out).mono ?_);rintro e w8 ⟨rfl,hb⟩;have bI:=ah.mk (az cA hb);clear HB;have HB:=bI;clear bI;(try clear hb);(try clear hb2);(try clear hk);(try clear hi)))
       go_ret
       exact ⟨cU,cA⟩
      ·replace c7:=Bool.eq_false_iff.mpr c7
       subst c7
       have H1:(aX.l0 k1 l0 (l0.length:Int) (wrap64 (eW + 1)))=some r:=by rw [if_neg (show ¬ (false=true) by decide)] at H;exact H
       clear H
       have H:=H1
       clear H1
       have H':=ah.mk H
       clear H
       have QB: 0≤(eW:Int):=of_decide_eq_true cO
       have QC:eW < (l0.length:Int):=of_decide_eq_true cO
       obtain ⟨agN,aee,xY,xZ,ya⟩:=vY yI.out eW QB QC
       cases aee
       replace xY:=(HB.out.cell (World.block_lt_of_cell? w _ xY)).trans xY
       replace xZ:=(HB.out.cell (World.block_lt_of_cell? w _ xZ)).trans xZ
       replace ya:=(HB.out.cell (World.block_lt_of_cell? w _ ya)).trans ya
       replace QB:=eq_true QB
       replace QC:=eq_true QC
       go_wp2_with (first|(go_at_call 137;(with_reducible refine (jz.calls k1 ((cv l0 eW).f0) ((cv l0 eW).f1) ((cv l0 eW).f2) false _ A6.out).mono ?_);rintro e w9 ⟨rfl,hb⟩;have bI:=ah.mk (az cA hb);clear HB;have HB:=bI;clear bI;(try clear hb);(try clear hb2);(try clear hk);(try clear hi)))
       go_roundg k1
       case measure=>have:=wS.out;omega
       case rel=>exact ⟨(wrap64 (eW + 1)),dL,H',⟨ko⟩,⟨cA⟩⟩
     ·rw [if_neg c5] at H
      exact absurd H bf
    ·rw [if_neg c4] at H
     exact absurd H bf
   ·rw [if_neg c3] at H
    have rD:decide (eW < (l0.length:Int))=false:=decide_eq_false c3
    clear c3
    obtain rfl:=Option.some.inj H
    go_wp2
    go_ret
    exact ⟨cU,cA⟩
def bK.f (k:Nat) (l0:List (gI)):Option (Bool):=(aX.f k l0).bind fun Vd=>(some (decide (Vd≥0)))
theorem bK.calls (k:Nat) (A0:Option Addr) (c0:Nat) (l0:List (gI)) (r:Bool) (w:World) (Bk:Kd.C BC w A0 l0.length l0) (hc0:l0.length≤c0) (h:bK.f k l0=some r):
 Calls Tryz.prog 136 #[.slice A0 l0.length c0,.func (.func 137) #[] #[]] w fun e w'=>e= .returned (.bool r)∧Below w.heap.size w w':=by
 have yI:=ah.mk Bk
 have S3:=ah.mk hc0
 clear Bk hc0
 have HB:=ah.mk (Below.refl w.heap.size w)
 have H:((aX.f k l0).bind fun Vd=>(some (decide (Vd≥0))))=some r:=h
 clear h
 replace H:=Option.bind_eq_some_iff.mp H
 obtain ⟨Vd,zb,H⟩:=H
 replace H:(some (decide (Vd≥0)))=some r:=H
 have A3:=ah.mk zb
 clear zb
 obtain rfl:=Option.some.inj H
 go_enter Tryz.func136,Tryz.ntmps136
 go_wp2_with (first|((with_reducible refine aT (f:=175) rfl ?_);refine cC (some 7) rfl rfl Tryz.func175 av rfl #[.slice A0 l0.length c0,.func (.func 137) #[] #[]] rfl cY ?_;(with_reducible refine (aX.calls k _ _ l0 Vd _ ?bg ?bY A3.out).mono ?_);(case bg=>repeat (first|exact yI.out|(with_reducible refine Kd.dZ ?_ _)|(with_reducible refine Kd.eo ?_ _)|(with_reducible refine Kd.eZ ?_)));(case bY=>exact S3.out);rintro e w4 ⟨rfl,hb⟩;refine ⟨_,rfl,?_⟩;have bI:=ah.mk (az cA hb);clear HB;have HB:=bI;clear bI;(try clear hb);(try clear hb2);(try clear hk);(try clear hi)))
 go_ret
 exact ⟨cU,cA⟩
def fL.f (k:Nat) (aI:Int) (bh:ByteArray) (bn:Bool) (bT:List ByteArray) (bz:ByteArray) (bW:ByteArray) (bX:Bool) (bw:List (gI)):Option (Bool):=(ez.f aI).bind fun Ve=>(if Ve=true then (if bh.toList=([]:List UInt8) then ((fM.f k bn bT bz bW bX).bind fun IW=>(if IW=true then ((bK.f k bw).bind fun C5=>(some (!C5))) else (some false))) else (some false)) else (if bn=true then (some false) else (if (bT.length:Int)=0 then (if (bz.toList == ([]:List UInt8) && (bW.toList == ([]:List UInt8) && (!bX)))=true then (some ((bw.length:Int) == 0)) else (some false)) else (some false))))
theorem fL.calls (k:Nat) (aI:Int) (bh:ByteArray) (bn:Bool) (dn:Option Addr) (dw:Nat) (bT:List ByteArray) (bz:ByteArray) (bW:ByteArray) (bX:Bool) (dF:Option Addr) (dx:Nat) (bw:List (gI)) (r:Bool) (w:World) (sw:Kd.C Kd.string w dn bT.length bT) (sx:bT.length≤dw) (sy:Kd.C BC w dF bw.length bw) (sA:bw.length≤dx) (hG:aW w) (h:fL.f k aI bh bn bT bz bW bX bw=some r):
 Calls Tryz.prog 90 #[.agg #[.int .u8 aI,.string bh,.bool bn,.slice dn bT.length dw,.string bz,.string bW,.bool bX,.slice dF bw.length dx]] w fun e w'=>e= .returned (.bool r)∧Below w.heap.size w w':=by
 have Na:=Tryz.underlying35
 have M3:=Tryz.underlying32
 have M4:=Tryz.underlying30
 have kV:=ah.mk sw
 have kW:=ah.mk sx
 clear sw sx
 have lS:=ah.mk sy
 have oD:=ah.mk sA
 clear sy sA
 have HB:=ah.mk (Below.refl w.heap.size w)
 have HG:=ah.mk hG
 clear hG
 have H:((ez.f aI).bind fun Ve=>(if Ve=true then (if bh.toList=([]:List UInt8) then ((fM.f k bn bT bz bW bX).bind fun IW=>(if IW=true then ((bK.f k bw).bind fun C5=>(some (!C5))) else (some false))) else (some false)) else (if bn=true then (some false) else (if (bT.length:Int)=0 then (if (bz.toList == ([]:List UInt8) && (bW.toList == ([]:List UInt8) && (!bX)))=true then (some ((bw.length:Int) == 0)) else (some false)) else (some false)))))=some r:=h
 clear h
 replace H:=Option.bind_eq_some_iff.mp H
 obtain ⟨Ve,oL,H⟩:=H
 replace H:(if Ve=true then (if bh.toList=([]:List UInt8) then ((fM.f k bn bT bz bW bX).bind fun IW=>(if IW=true then ((bK.f k bw).bind fun C5=>(some (!C5))) else (some false))) else (some false)) else (if bn=true then (some false) else (if (bT.length:Int)=0 then (if (bz.toList == ([]:List UInt8) && (bW.toList == ([]:List UInt8) && (!bX)))=true then (some ((bw.length:Int) == 0)) else (some false)) else (some false))))=some r:=H
 have A2:=ah.mk oL
 clear oL
 by_cases c3:Ve=true
 ·subst c3
  have H1:(if bh.toList=([]:List UInt8) then ((fM.f k bn bT bz bW bX).bind fun IW=>(if IW=true then ((bK.f k bw).bind fun C5=>(some (!C5))) else (some false))) else (some false))=some r:=by rw [if_pos rfl] at H;exact H
  clear H
  have H:=H1
  clear H1
  by_cases c4:bh.toList=([]:List UInt8)
  ·rw [if_pos c4] at H
   have nP:(bh.toList == ([]:List UInt8))=true:=beq_iff_eq.mpr c4
   have Bn:(bh.toList != ([]:List UInt8))=false:=bne_eq_false_iff_eq.mpr c4
   clear c4
   replace H:=Option.bind_eq_some_iff.mp H
   obtain ⟨IW,Nv,H⟩:=H
   replace H:(if IW=true then ((bK.f k bw).bind fun C5=>(some (!C5))) else (some false))=some r:=H
   have A5:=ah.mk Nv
   clear Nv
   by_cases c6:IW=true
   ·subst c6
    have H1:((bK.f k bw).bind fun C5=>(some (!C5)))=some r:=by rw [if_pos rfl] at H;exact H
    clear H
    have H:=H1
    clear H1
    replace H:=Option.bind_eq_some_iff.mp H
    obtain ⟨C5,GV,H⟩:=H
    replace H:(some (!C5))=some r:=H
    have A7:=ah.mk GV
    clear GV
    obtain rfl:=Option.some.inj H
    go_enter Tryz.func90,Tryz.ntmps90
    go_wp2_with (first|((with_reducible refine cK (N:=1) rfl ?_);(try (refine eu (by rfl) ?_;dsimp only));refine cu ?hg (N:=1) ?hd (cs:=#[.int .u8 aI,.string bh,.bool bn,.slice dn bT.length dw,.string bz,.string bW,.bool bX,.slice dF bw.length dx]) (t:=35) ?hr ?_;(case hd=>rfl);(case hg=>rfl);(case hr=>first|(go_simp;done)|(go_simp;rfl));intro eN hg w8 cM hb;have bI:=ah.mk (az cA hb);have bP:=ah.mk (cM);have cw:=ah.mk ((dW:w.heap.size≤eN));have cW:=ah.mk ((dW:w.heap.size≤eN));clear HB;have HB:=bI;have cQ:=bP;have Jp:=cw;have Gi:=cW;clear bI bP cw cW;clear hb cM hg;have rz:w8.cell? ⟨eN,0,none⟩=some (.int .u8 aI):=(af cQ.out 0).trans rfl;have rA:w8.cell? ⟨eN,1,none⟩=some (.string bh):=(af cQ.out 1).trans rfl;have yY:w8.cell? ⟨eN,2,none⟩=some (.bool bn):=(af cQ.out 2).trans rfl;have Bg:w8.cell? ⟨eN,3,none⟩=some (.slice dn bT.length dw):=(af cQ.out 3).trans rfl;have Bh:w8.cell? ⟨eN,4,none⟩=some (.string bz):=(af cQ.out 4).trans rfl;have Mp:w8.cell? ⟨eN,5,none⟩=some (.string bW):=(af cQ.out 5).trans rfl;have Mq:w8.cell? ⟨eN,6,none⟩=some (.bool bX):=(af cQ.out 6).trans rfl;have Mr:w8.cell? ⟨eN,7,none⟩=some (.slice dF bw.length dx):=(af cQ.out 7).trans rfl;have rB:=aa cQ.out 0;have rC:=aa cQ.out 1;have yZ:=aa cQ.out 2;have Bi:=aa cQ.out 3;have Bj:=aa cQ.out 4;have Ms:=aa cQ.out 5;have Mt:=aa cQ.out 6;have Mu:=aa cQ.out 7)|((with_reducible refine aT (f:=135) rfl ?_);refine cC (some 5) rfl rfl Tryz.func135 av rfl #[.int .u8 aI] rfl cY ?_;(with_reducible refine (ez.calls aI true _ A2.out).mono ?_);rintro e w' ⟨rfl,⟨nd,rfl⟩⟩;refine ⟨_,rfl,?_⟩)|(go_at_call 20;(with_reducible refine (fM.calls k bn _ _ bT bz bW bX true _ ?bg ?bY ?eI A5.out).mono ?_);(case bg=>repeat (first|exact (Kd.dI kV.out qa)|(with_reducible refine Kd.dZ ?_ _)|(with_reducible refine Kd.eo ?_ _)|(with_reducible refine Kd.eZ ?_)));(case bY=>exact kW.out);(case eI=>exact aW.below HG.out qa);rintro e vI ⟨rfl,hb⟩;have bI:=ah.mk (aR (g:=eN) (o:= .cells #[.int .u8 aI,.string bh,.bool bn,.slice dn bT.length dw,.string bz,.string bW,.bool bX,.slice dF bw.length dx] 35 (0,0)) J0 hb);have bP:=ah.mk (az qa hb);clear cQ;clear HB;have cQ:=bI;have HB:=bP;clear bI bP;(try clear hb);(try clear hb2);(try clear hk);(try clear hi);have uM:vI.cell? ⟨eN,0,none⟩=some (.int .u8 aI):=(af cQ.out 0).trans rfl;have uN:vI.cell? ⟨eN,1,none⟩=some (.string bh):=(af cQ.out 1).trans rfl;have uO:vI.cell? ⟨eN,2,none⟩=some (.bool bn):=(af cQ.out 2).trans rfl;have zR:vI.cell? ⟨eN,3,none⟩=some (.slice dn bT.length dw):=(af cQ.out 3).trans rfl;have zS:vI.cell? ⟨eN,4,none⟩=some (.string bz):=(af cQ.out 4).trans rfl;have Cc:vI.cell? ⟨eN,5,none⟩=some (.string bW):=(af cQ.out 5).trans rfl;have Ce:vI.cell? ⟨eN,6,none⟩=some (.bool bX):=(af cQ.out 6).trans rfl;have Cf:vI.cell? ⟨eN,7,none⟩=some (.slice dF bw.length dx):=(af cQ.out 7).trans rfl;have uP:=aa cQ.out 0;have uQ:=aa cQ.out 1;have uR:=aa cQ.out 2;have zT:=aa cQ.out 3;have zU:=aa cQ.out 4;have Cg:=aa cQ.out 5;have Ch:=aa cQ.out 6;have Ci:=aa cQ.out 7)|(go_at_call 136;(with_reducible refine (bK.calls k _ _ bw C5 _ ?bg ?bY A7.out).mono ?_);(case bg=>repeat (first|exact (Kd.dI lS.out HB.out)|(with_reducible refine Kd.dZ ?_ _)|(with_reducible refine Kd.eo ?_ _)|(with_reducible refine Kd.eZ ?_)));(case bY=>exact oD.out);rintro e IB ⟨rfl,hb⟩;have bI:=ah.mk (aR (g:=eN) (o:= .cells #[.int .u8 aI,.string bh,.bool bn,.slice dn bT.length dw,.string bz,.string bW,.bool bX,.slice dF bw.length dx] 35 (0,0)) J0 hb);have bP:=ah.mk (az qa hb);clear cQ;clear HB;have cQ:=bI;have HB:=bP;clear bI bP;(try clear hb);(try clear hb2);(try clear hk);(try clear hi)))
    go_ret
    exact ⟨cU,qa⟩
   ·replace c6:=Bool.eq_false_iff.mpr c6
    subst c6
    have H1:(some false)=some r:=by rw [if_neg (show ¬ (false=true) by decide)] at H;exact H
    clear H
    have H:=H1
    clear H1
    obtain rfl:=Option.some.inj H
    go_enter Tryz.func90,Tryz.ntmps90
    go_wp2_with (first|((with_reducible refine cK (N:=1) rfl ?_);(try (refine eu (by rfl) ?_;dsimp only));refine cu ?hg (N:=1) ?hd (cs:=#[.int .u8 aI,.string bh,.bool bn,.slice dn bT.length dw,.string bz,.string bW,.bool bX,.slice dF bw.length dx]) (t:=35) ?hr ?_;(case hd=>rfl);(case hg=>rfl);(case hr=>first|(go_simp;done)|(go_simp;rfl));intro eN hg n7 cM hb;have bI:=ah.mk (az cA hb);have bP:=ah.mk (cM);have cw:=ah.mk ((dW:w.heap.size≤eN));have cW:=ah.mk ((dW:w.heap.size≤eN));clear HB;have HB:=bI;have cQ:=bP;have Jp:=cw;have Gi:=cW;clear bI bP cw cW;clear hb cM hg;have uS:n7.cell? ⟨eN,0,none⟩=some (.int .u8 aI):=(af cQ.out 0).trans rfl;have uT:n7.cell? ⟨eN,1,none⟩=some (.string bh):=(af cQ.out 1).trans rfl;have xh:n7.cell? ⟨eN,2,none⟩=some (.bool bn):=(af cQ.out 2).trans rfl;have xj:n7.cell? ⟨eN,3,none⟩=some (.slice dn bT.length dw):=(af cQ.out 3).trans rfl;have xk:n7.cell? ⟨eN,4,none⟩=some (.string bz):=(af cQ.out 4).trans rfl;have xm:n7.cell? ⟨eN,5,none⟩=some (.string bW):=(af cQ.out 5).trans rfl;have xp:n7.cell? ⟨eN,6,none⟩=some (.bool bX):=(af cQ.out 6).trans rfl;have xq:n7.cell? ⟨eN,7,none⟩=some (.slice dF bw.length dx):=(af cQ.out 7).trans rfl;have uU:=aa cQ.out 0;have uV:=aa cQ.out 1;have xu:=aa cQ.out 2;have xw:=aa cQ.out 3;have xx:=aa cQ.out 4;have xy:=aa cQ.out 5;have xz:=aa cQ.out 6;have xA:=aa cQ.out 7)|((with_reducible refine aT (f:=135) rfl ?_);refine cC (some 5) rfl rfl Tryz.func135 av rfl #[.int .u8 aI] rfl cY ?_;(with_reducible refine (ez.calls aI true _ A2.out).mono ?_);rintro e w' ⟨rfl,⟨nd,rfl⟩⟩;refine ⟨_,rfl,?_⟩)|(go_at_call 20;(with_reducible refine (fM.calls k bn _ _ bT bz bW bX false _ ?bg ?bY ?eI A5.out).mono ?_);(case bg=>repeat (first|exact (Kd.dI kV.out qa)|(with_reducible refine Kd.dZ ?_ _)|(with_reducible refine Kd.eo ?_ _)|(with_reducible refine Kd.eZ ?_)));(case bY=>exact kW.out);(case eI=>exact aW.below HG.out qa);rintro e Jj ⟨rfl,hb⟩;have bI:=ah.mk (aR (g:=eN) (o:= .cells #[.int .u8 aI,.string bh,.bool bn,.slice dn bT.length dw,.string bz,.string bW,.bool bX,.slice dF bw.length dx] 35 (0,0)) J0 hb);have bP:=ah.mk (az qa hb);clear cQ;clear HB;have cQ:=bI;have HB:=bP;clear bI bP;(try clear hb);(try clear hb2);(try clear hk);(try clear hi)))
    go_ret
    exact ⟨cU,qa⟩
  ·rw [if_neg c4] at H
   have nP:(bh.toList == ([]:List UInt8))=false:=beq_eq_false_iff_ne.mpr c4
   have Bn:(bh.toList != ([]:List UInt8))=true:=bne_iff_ne.mpr c4
   obtain rfl:=Option.some.inj H
   go_enter Tryz.func90,Tryz.ntmps90
   go_wp2_with (first|((with_reducible refine cK (N:=1) rfl ?_);(try (refine eu (by rfl) ?_;dsimp only));refine cu ?hg (N:=1) ?hd (cs:=#[.int .u8 aI,.string bh,.bool bn,.slice dn bT.length dw,.string bz,.string bW,.bool bX,.slice dF bw.length dx]) (t:=35) ?hr ?_;(case hd=>rfl);(case hg=>rfl);(case hr=>first|(go_simp;done)|(go_simp;rfl));intro eN hg Zc cM hb;have bI:=ah.mk (az cA hb);have bP:=ah.mk (cM);have cw:=ah.mk ((dW:w.heap.size≤eN));have cW:=ah.mk ((dW:w.heap.size≤eN));clear HB;have HB:=bI;have cQ:=bP;have Jp:=cw;have Gi:=cW;clear bI bP cw cW;clear hb cM hg;have u9:Zc.cell? ⟨eN,0,none⟩=some (.int .u8 aI):=(af cQ.out 0).trans rfl;have vk:Zc.cell? ⟨eN,1,none⟩=some (.string bh):=(af cQ.out 1).trans rfl;have Cj:Zc.cell? ⟨eN,2,none⟩=some (.bool bn):=(af cQ.out 2).trans rfl;have KR:Zc.cell? ⟨eN,3,none⟩=some (.slice dn bT.length dw):=(af cQ.out 3).trans rfl;have KS:Zc.cell? ⟨eN,4,none⟩=some (.string bz):=(af cQ.out 4).trans rfl;have KU:Zc.cell? ⟨eN,5,none⟩=some (.string bW):=(af cQ.out 5).trans rfl;have KV:Zc.cell? ⟨eN,6,none⟩=some (.bool bX):=(af cQ.out 6).trans rfl;have KW:Zc.cell? ⟨eN,7,none⟩=some (.slice dF bw.length dx):=(af cQ.out 7).trans rfl;have vo:=aa cQ.out 0;have vq:=aa cQ.out 1;have Ck:=aa cQ.out 2;have KX:=aa cQ.out 3;have KY:=aa cQ.out 4;have KZ:=aa cQ.out 5;have K2:=aa cQ.out 6;have K3:=aa cQ.out 7)|((with_reducible refine aT (f:=135) rfl ?_);refine cC (some 5) rfl rfl Tryz.func135 av rfl #[.int .u8 aI] rfl cY ?_;(with_reducible refine (ez.calls aI true _ A2.out).mono ?_);rintro e w' ⟨rfl,⟨nd,rfl⟩⟩;refine ⟨_,rfl,?_⟩))
   go_ret
   exact ⟨cU,qa⟩
 ·replace c3:=Bool.eq_false_iff.mpr c3
  subst c3
  have H1:(if bn=true then (some false) else (if (bT.length:Int)=0 then (if (bz.toList == ([]:List UInt8) && (bW.toList == ([]:List UInt8) && (!bX)))=true then (some ((bw.length:Int) == 0)) else (some false)) else (some false)))=some r:=by rw [if_neg (show ¬ (false=true) by decide)] at H;exact H
  clear H
  have H:=H1
  clear H1
  by_cases c18:bn=true
  ·subst c18
   have H1:(some false)=some r:=by rw [if_pos rfl] at H;exact H
   clear H
   have H:=H1
   clear H1
   obtain rfl:=Option.some.inj H
   go_enter Tryz.func90,Tryz.ntmps90
   go_wp2_with (first|((with_reducible refine cK (N:=1) rfl ?_);(try (refine eu (by rfl) ?_;dsimp only));refine cu ?hg (N:=1) ?hd (cs:=#[.int .u8 aI,.string bh,.bool true,.slice dn bT.length dw,.string bz,.string bW,.bool bX,.slice dF bw.length dx]) (t:=35) ?hr ?_;(case hd=>rfl);(case hg=>rfl);(case hr=>first|(go_simp;done)|(go_simp;rfl));intro eN hg Pg cM hb;have bI:=ah.mk (az cA hb);have bP:=ah.mk (cM);have cw:=ah.mk ((dW:w.heap.size≤eN));have cW:=ah.mk ((dW:w.heap.size≤eN));clear HB;have HB:=bI;have cQ:=bP;have Jp:=cw;have Gi:=cW;clear bI bP cw cW;clear hb cM hg;have vJ:Pg.cell? ⟨eN,0,none⟩=some (.int .u8 aI):=(af cQ.out 0).trans rfl;have vK:Pg.cell? ⟨eN,1,none⟩=some (.string bh):=(af cQ.out 1).trans rfl;have CW:Pg.cell? ⟨eN,2,none⟩=some (.bool true):=(af cQ.out 2).trans rfl;have F5:Pg.cell? ⟨eN,3,none⟩=some (.slice dn bT.length dw):=(af cQ.out 3).trans rfl;have F6:Pg.cell? ⟨eN,4,none⟩=some (.string bz):=(af cQ.out 4).trans rfl;have F7:Pg.cell? ⟨eN,5,none⟩=some (.string bW):=(af cQ.out 5).trans rfl;have F8:Pg.cell? ⟨eN,6,none⟩=some (.bool bX):=(af cQ.out 6).trans rfl;have F9:Pg.cell? ⟨eN,7,none⟩=some (.slice dF bw.length dx):=(af cQ.out 7).trans rfl;have vL:=aa cQ.out 0;have vM:=aa cQ.out 1;have CX:=aa cQ.out 2;have Ga:=aa cQ.out 3;have Gb:=aa cQ.out 4;have Gc:=aa cQ.out 5;have Gd:=aa cQ.out 6;have Ge:=aa cQ.out 7)|((with_reducible refine aT (f:=135) rfl ?_);refine cC (some 5) rfl rfl Tryz.func135 av rfl #[.int .u8 aI] rfl cY ?_;(with_reducible refine (ez.calls aI false _ A2.out).mono ?_);rintro e w' ⟨rfl,⟨nd,rfl⟩⟩;refine ⟨_,rfl,?_⟩))
   go_ret
   exact ⟨cU,qa⟩
  ·replace c18:=Bool.eq_false_iff.mpr c18
   subst c18
   have H1:(if (bT.length:Int)=0 then (if (bz.toList == ([]:List UInt8) && (bW.toList == ([]:List UInt8) && (!bX)))=true then (some ((bw.length:Int) == 0)) else (some false)) else (some false))=some r:=by rw [if_neg (show ¬ (false=true) by decide)] at H;exact H
   clear H
   have H:=H1
   clear H1
   by_cases c21:(bT.length:Int)=0
   ·rw [if_pos c21] at H
    have R8:((bT.length:Int) == 0)=true:=beq_iff_eq.mpr c21
    have X4:((bT.length:Int) != 0)=false:=bne_eq_false_iff_eq.mpr c21
    clear c21
    by_cases Dh:(bz.toList == ([]:List UInt8) && (bW.toList == ([]:List UInt8) && (!bX)))=true
    ·rw [if_pos Dh] at H
     have R9:(bz.toList == ([]:List UInt8) && (bW.toList == ([]:List UInt8) && (!bX)))=true:=Dh
     have QD:∀ l:List UInt8,l.isEmpty=(l == []):=fun l=>by cases l<;>rfl
     have ao6:(bz.toList.isEmpty && (bW.toList.isEmpty && (!bX)))=true:=by rw [QD,QD];exact R9
     clear QD
     (try (have agO:decide (bz.toList=([]:List UInt8) && (bW.toList == ([]:List UInt8) && (!bX)))=true:=by simpa using Dh))
     (try (have agP:(bz.toList == ([]:List UInt8) && (bW.toList == ([]:List UInt8) && (!bX)))=true:=by simpa using Dh))
     clear Dh
     obtain rfl:=Option.some.inj H
     go_enter Tryz.func90,Tryz.ntmps90
     go_wp2_with (first|((with_reducible refine cK (N:=1) rfl ?_);(try (refine eu (by rfl) ?_;dsimp only));refine cu ?hg (N:=1) ?hd (cs:=#[.int .u8 aI,.string bh,.bool false,.slice dn bT.length dw,.string bz,.string bW,.bool bX,.slice dF bw.length dx]) (t:=35) ?hr ?_;(case hd=>rfl);(case hg=>rfl);(case hr=>first|(go_simp;done)|(go_simp;rfl));intro eN hg NI cM hb;have bI:=ah.mk (az cA hb);have bP:=ah.mk (cM);have cw:=ah.mk ((dW:w.heap.size≤eN));have cW:=ah.mk ((dW:w.heap.size≤eN));clear HB;have HB:=bI;have cQ:=bP;have Jp:=cw;have Gi:=cW;clear bI bP cw cW;clear hb cM hg;have tB:NI.cell? ⟨eN,0,none⟩=some (.int .u8 aI):=(af cQ.out 0).trans rfl;have tC:NI.cell? ⟨eN,1,none⟩=some (.string bh):=(af cQ.out 1).trans rfl;have Aa:NI.cell? ⟨eN,2,none⟩=some (.bool false):=(af cQ.out 2).trans rfl;have Ac:NI.cell? ⟨eN,3,none⟩=some (.slice dn bT.length dw):=(af cQ.out 3).trans rfl;have Ad:NI.cell? ⟨eN,4,none⟩=some (.string bz):=(af cQ.out 4).trans rfl;have Ae:NI.cell? ⟨eN,5,none⟩=some (.string bW):=(af cQ.out 5).trans rfl;have Af:NI.cell? ⟨eN,6,none⟩=some (.bool bX):=(af cQ.out 6).trans rfl;have Ag:NI.cell? ⟨eN,7,none⟩=some (.slice dF bw.length dx):=(af cQ.out 7).trans rfl;have tD:=aa cQ.out 0;have tE:=aa cQ.out 1;have Ah:=aa cQ.out 2;have Ai:=aa cQ.out 3;have Aj:=aa cQ.out 4;have Ak:=aa cQ.out 5;have Al:=aa cQ.out 6;have Am:=aa cQ.out 7)|((with_reducible refine aT (f:=135) rfl ?_);refine cC (some 5) rfl rfl Tryz.func135 av rfl #[.int .u8 aI] rfl cY ?_;(with_reducible refine (ez.calls aI false _ A2.out).mono ?_);rintro e w' ⟨rfl,⟨nd,rfl⟩⟩;refine ⟨_,rfl,?_⟩))
     go_ret
     exact ⟨cU,qa⟩
    ·rw [if_neg Dh] at H
     have R9:(bz.toList == ([]:List UInt8) && (bW.toList == ([]:List UInt8) && (!bX)))=false:=by simpa using Dh
     have QD:∀ l:List UInt8,l.isEmpty=(l == []):=fun l=>by cases l<;>rfl
     have ao6:(bz.toList.isEmpty && (bW.toList.isEmpty && (!bX)))=false:=by rw [QD,QD];exact R9
     clear QD
     (try (have agO:decide (bz.toList=([]:List UInt8) && (bW.toList == ([]:List UInt8) && (!bX)))=false:=by simpa using Dh))
     (try (have agP:(bz.toList == ([]:List UInt8) && (bW.toList == ([]:List UInt8) && (!bX)))=false:=by simpa using Dh))
     (try (have arA: ¬ (bz.toList=([]:List UInt8) && (bW.toList == ([]:List UInt8) && (!bX))):=by simpa using Dh))
     clear Dh
     obtain rfl:=Option.some.inj H
     go_enter Tryz.func90,Tryz.ntmps90
     go_wp2_with (first|((with_reducible refine cK (N:=1) rfl ?_);(try (refine eu (by rfl) ?_;dsimp only));refine cu ?hg (N:=1) ?hd (cs:=#[.int .u8 aI,.string bh,.bool false,.slice dn bT.length dw,.string bz,.string bW,.bool bX,.slice dF bw.length dx]) (t:=35) ?hr ?_;(case hd=>rfl);(case hg=>rfl);(case hr=>first|(go_simp;done)|(go_simp;rfl));intro eN hg VR cM hb;have bI:=ah.mk (az cA hb);have bP:=ah.mk (cM);have cw:=ah.mk ((dW:w.heap.size≤eN));have cW:=ah.mk ((dW:w.heap.size≤eN));clear HB;have HB:=bI;have cQ:=bP;have Jp:=cw;have Gi:=cW;clear bI bP cw cW;clear hb cM hg;have Kr:VR.cell? ⟨eN,0,none⟩=some (.int .u8 aI):=(af cQ.out 0).trans rfl;have Ks:VR.cell? ⟨eN,1,none⟩=some (.string bh):=(af cQ.out 1).trans rfl;have Kt:VR.cell? ⟨eN,2,none⟩=some (.bool false):=(af cQ.out 2).trans rfl;have Zu:VR.cell? ⟨eN,3,none⟩=some (.slice dn bT.length dw):=(af cQ.out 3).trans rfl;have Zv:VR.cell? ⟨eN,4,none⟩=some (.string bz):=(af cQ.out 4).trans rfl;have ak9:VR.cell? ⟨eN,5,none⟩=some (.string bW):=(af cQ.out 5).trans rfl;have ala:VR.cell? ⟨eN,6,none⟩=some (.bool bX):=(af cQ.out 6).trans rfl;have alb:VR.cell? ⟨eN,7,none⟩=some (.slice dF bw.length dx):=(af cQ.out 7).trans rfl;have Ku:=aa cQ.out 0;have Kv:=aa cQ.out 1;have Kw:=aa cQ.out 2;have Zw:=aa cQ.out 3;have Zx:=aa cQ.out 4;have alc:=aa cQ.out 5;have ald:=aa cQ.out 6;have ale:=aa cQ.out 7)|((with_reducible refine aT (f:=135) rfl ?_);refine cC (some 5) rfl rfl Tryz.func135 av rfl #[.int .u8 aI] rfl cY ?_;(with_reducible refine (ez.calls aI false _ A2.out).mono ?_);rintro e w' ⟨rfl,⟨nd,rfl⟩⟩;refine ⟨_,rfl,?_⟩))
     go_ret
     exact ⟨cU,qa⟩
   ·rw [if_neg c21] at H
    have R8:((bT.length:Int) == 0)=false:=beq_eq_false_iff_ne.mpr c21
    have X4:((bT.length:Int) != 0)=true:=bne_iff_ne.mpr c21
    have TV: ¬ (bT= []):=fun h_ =>c21 (by rw [h_];rfl)
    obtain rfl:=Option.some.inj H
    go_enter Tryz.func90,Tryz.ntmps90
    go_wp2_with (first|((with_reducible refine cK (N:=1) rfl ?_);(try (refine eu (by rfl) ?_;dsimp only));refine cu ?hg (N:=1) ?hd (cs:=#[.int .u8 aI,.string bh,.bool false,.slice dn bT.length dw,.string bz,.string bW,.bool bX,.slice dF bw.length dx]) (t:=35) ?hr ?_;(case hd=>rfl);(case hg=>rfl);(case hr=>first|(go_simp;done)|(go_simp;rfl));intro eN hg Y9 cM hb;have bI:=ah.mk (az cA hb);have bP:=ah.mk (cM);have cw:=ah.mk ((dW:w.heap.size≤eN));have cW:=ah.mk ((dW:w.heap.size≤eN));clear HB;have HB:=bI;have cQ:=bP;have Jp:=cw;have Gi:=cW;clear bI bP cw cW;clear hb cM hg;have Fx:Y9.cell? ⟨eN,0,none⟩=some (.int .u8 aI):=(af cQ.out 0).trans rfl;have Fy:Y9.cell? ⟨eN,1,none⟩=some (.string bh):=(af cQ.out 1).trans rfl;have Fz:Y9.cell? ⟨eN,2,none⟩=some (.bool false):=(af cQ.out 2).trans rfl;have Lc:Y9.cell? ⟨eN,3,none⟩=some (.slice dn bT.length dw):=(af cQ.out 3).trans rfl;have Ld:Y9.cell? ⟨eN,4,none⟩=some (.string bz):=(af cQ.out 4).trans rfl;have Le:Y9.cell? ⟨eN,5,none⟩=some (.string bW):=(af cQ.out 5).trans rfl;have Lf:Y9.cell? ⟨eN,6,none⟩=some (.bool bX):=(af cQ.out 6).trans rfl;have Lg:Y9.cell? ⟨eN,7,none⟩=some (.slice dF bw.length dx):=(af cQ.out 7).trans rfl;have FA:=aa cQ.out 0;have FB:=aa cQ.out 1;have FC:=aa cQ.out 2;have Lh:=aa cQ.out 3;have Li:=aa cQ.out 4;have Lj:=aa cQ.out 5;have Ll:=aa cQ.out 6;have Lm:=aa cQ.out 7)|((with_reducible refine aT (f:=135) rfl ?_);refine cC (some 5) rfl rfl Tryz.func135 av rfl #[.int .u8 aI] rfl cY ?_;(with_reducible refine (ez.calls aI false _ A2.out).mono ?_);rintro e w' ⟨rfl,⟨nd,rfl⟩⟩;refine ⟨_,rfl,?_⟩))
    go_ret
    exact ⟨cU,qa⟩
def jm.f (k:Nat) (aI:Int) (bh:ByteArray) (bn:Bool) (bT:List ByteArray) (bz:ByteArray) (bW:ByteArray) (bX:Bool) (bw:List (gI)):Option (Bool):=(fL.f k aI bh bn bT bz bW bX bw).bind fun Vf=>(if Vf=true then ((bV.f k aI bh bn bT bz bW bX bw).bind fun yH=>((ak.f k yH).bind fun qK=>(if qK.2.2.2.2.2.2.2.2=0 then (if qK.1=aI then (some (qK.2.1.toList == bh.toList)) else (some false)) else (some false)))) else (some false))
theorem jm.calls (k:Nat) (aI:Int) (bh:ByteArray) (bn:Bool) (dn:Option Addr) (dw:Nat) (bT:List ByteArray) (bz:ByteArray) (bW:ByteArray) (bX:Bool) (dF:Option Addr) (dx:Nat) (bw:List (gI)) (r:Bool) (w:World) (sw:Kd.C Kd.string w dn bT.length bT) (sx:bT.length≤dw) (sy:Kd.C BC w dF bw.length bw) (sA:bw.length≤dx) (hG:aW w) (h:jm.f k aI bh bn bT bz bW bX bw=some r):
 Calls Tryz.prog 34 #[.agg #[.int .u8 aI,.string bh,.bool bn,.slice dn bT.length dw,.string bz,.string bW,.bool bX,.slice dF bw.length dx]] w fun e w'=>e= .returned (.bool r)∧Below w.heap.size w w':=by
 have Na:=Tryz.underlying35
 have kV:=ah.mk sw
 have kW:=ah.mk sx
 clear sw sx
 have lS:=ah.mk sy
 have oD:=ah.mk sA
 clear sy sA
 have HB:=ah.mk (Below.refl w.heap.size w)
 have HG:=ah.mk hG
 clear hG
 have H:((fL.f k aI bh bn bT bz bW bX bw).bind fun Vf=>(if Vf=true then ((bV.f k aI bh bn bT bz bW bX bw).bind fun yH=>((ak.f k yH).bind fun qK=>(if qK.2.2.2.2.2.2.2.2=0 then (if qK.1=aI then (some (qK.2.1.toList == bh.toList)) else (some false)) else (some false)))) else (some false)))=some r:=h
 clear h
 replace H:=Option.bind_eq_some_iff.mp H
 obtain ⟨Vf,oL,H⟩:=H
 replace H:(if Vf=true then ((bV.f k aI bh bn bT bz bW bX bw).bind fun yH=>((ak.f k yH).bind fun qK=>(if qK.2.2.2.2.2.2.2.2=0 then (if qK.1=aI then (some (qK.2.1.toList == bh.toList)) else (some false)) else (some false)))) else (some false))=some r:=H
 have A2:=ah.mk oL
 clear oL
 by_cases c3:Vf=true
 ·subst c3
  have H1:((bV.f k aI bh bn bT bz bW bX bw).bind fun yH=>((ak.f k yH).bind fun qK=>(if qK.2.2.2.2.2.2.2.2=0 then (if qK.1=aI then (some (qK.2.1.toList == bh.toList)) else (some false)) else (some false))))=some r:=by rw [if_pos rfl] at H;exact H
  clear H
  have H:=H1
  clear H1
  replace H:=Option.bind_eq_some_iff.mp H
  obtain ⟨yH,Ef,H⟩:=H
  replace H:((ak.f k yH).bind fun qK=>(if qK.2.2.2.2.2.2.2.2=0 then (if qK.1=aI then (some (qK.2.1.toList == bh.toList)) else (some false)) else (some false)))=some r:=H
  have A4:=ah.mk Ef
  clear Ef
  replace H:=Option.bind_eq_some_iff.mp H
  obtain ⟨⟨Mv,abh,aef,aeg,aeh,aei,aej,aek,Mw⟩,Nv,H⟩:=H
  replace H:(if Mw=0 then (if Mv=aI then (some (abh.toList == bh.toList)) else (some false)) else (some false))=some r:=H
  have A5:=ah.mk Nv
  clear Nv
  by_cases c6:Mw=0
  ·rw [if_pos c6] at H
   have oW:(Mw == 0)=true:=beq_iff_eq.mpr c6
   have yS:(Mw != 0)=false:=bne_eq_false_iff_eq.mpr c6
   clear c6
   by_cases c7:Mv=aI
   ·rw [if_pos c7] at H
    have Nb:(Mv == aI)=true:=beq_iff_eq.mpr c7
    have WT:(Mv != aI)=false:=bne_eq_false_iff_eq.mpr c7
    clear c7
    obtain rfl:=Option.some.inj H
    go_enter Tryz.func34,Tryz.ntmps34
    go_wp2_with (first|((with_reducible refine cK (N:=1) rfl ?_);refine cu ?hg (N:=1) ?hd (cs:=#[.int .u8 aI,.string bh,.bool bn,.slice dn bT.length dw,.string bz,.string bW,.bool bX,.slice dF bw.length dx]) (t:=35) ?hr ?_;(case hd=>rfl);(case hg=>rfl);(case hr=>first|(go_simp;done)|(go_simp;rfl));intro dU hg w8 cM hb;have bI:=ah.mk (az cA hb);have bP:=ah.mk (cM);have cw:=ah.mk ((dW:w.heap.size≤dU));have cW:=ah.mk ((dW:w.heap.size≤dU));clear HB;have HB:=bI;have cr:=bP;have Ye:=cw;have I8:=cW;clear bI bP cw cW;clear hb cM hg;have rz:w8.cell? ⟨dU,0,none⟩=some (.int .u8 aI):=(af cr.out 0).trans rfl;have rA:w8.cell? ⟨dU,1,none⟩=some (.string bh):=(af cr.out 1).trans rfl;have yY:w8.cell? ⟨dU,2,none⟩=some (.bool bn):=(af cr.out 2).trans rfl;have Bg:w8.cell? ⟨dU,3,none⟩=some (.slice dn bT.length dw):=(af cr.out 3).trans rfl;have Bh:w8.cell? ⟨dU,4,none⟩=some (.string bz):=(af cr.out 4).trans rfl;have Mp:w8.cell? ⟨dU,5,none⟩=some (.string bW):=(af cr.out 5).trans rfl;have Mq:w8.cell? ⟨dU,6,none⟩=some (.bool bX):=(af cr.out 6).trans rfl;have Mr:w8.cell? ⟨dU,7,none⟩=some (.slice dF bw.length dx):=(af cr.out 7).trans rfl;have rB:=aa cr.out 0;have rC:=aa cr.out 1;have yZ:=aa cr.out 2;have Bi:=aa cr.out 3;have Bj:=aa cr.out 4;have Ms:=aa cr.out 5;have Mt:=aa cr.out 6;have Mu:=aa cr.out 7)|((with_reducible refine aT (f:=90) rfl ?_);refine cC (some 6) rfl rfl Tryz.func90 av rfl #[.agg #[.int .u8 aI,.string bh,.bool bn,.slice dn bT.length dw,.string bz,.string bW,.bool bX,.slice dF bw.length dx]] rfl cY ?_;(with_reducible refine (fL.calls k aI bh bn _ _ bT bz bW bX _ _ bw true _ ?bg ?bY ?eI ?gP ?iV A2.out).mono ?_);(case bg=>repeat (first|exact (Kd.dI kV.out HB.out)|(with_reducible refine Kd.dZ ?_ _)|(with_reducible refine Kd.eo ?_ _)|(with_reducible refine Kd.eZ ?_)));(case bY=>exact kW.out);(case eI=>repeat (first|exact (Kd.dI lS.out HB.out)|(with_reducible refine Kd.dZ ?_ _)|(with_reducible refine Kd.eo ?_ _)|(with_reducible refine Kd.eZ ?_)));(case gP=>exact oD.out);(case iV=>exact aW.below HG.out jg);rintro e vI ⟨rfl,hb⟩;refine ⟨_,rfl,?_⟩;have bI:=ah.mk (aR (g:=dU) (o:= .cells #[.int .u8 aI,.string bh,.bool bn,.slice dn bT.length dw,.string bz,.string bW,.bool bX,.slice dF bw.length dx] 35 (0,0)) ru hb);have bP:=ah.mk (az jg hb);clear cr;clear HB;have cr:=bI;have HB:=bP;clear bI bP;(try clear hb);(try clear hb2);(try clear hk);(try clear hi);have uM:vI.cell? ⟨dU,0,none⟩=some (.int .u8 aI):=(af cr.out 0).trans rfl;have uN:vI.cell? ⟨dU,1,none⟩=some (.string bh):=(af cr.out 1).trans rfl;have uO:vI.cell? ⟨dU,2,none⟩=some (.bool bn):=(af cr.out 2).trans rfl;have zR:vI.cell? ⟨dU,3,none⟩=some (.slice dn bT.length dw):=(af cr.out 3).trans rfl;have zS:vI.cell? ⟨dU,4,none⟩=some (.string bz):=(af cr.out 4).trans rfl;have Cc:vI.cell? ⟨dU,5,none⟩=some (.string bW):=(af cr.out 5).trans rfl;have Ce:vI.cell? ⟨dU,6,none⟩=some (.bool bX):=(af cr.out 6).trans rfl;have Cf:vI.cell? ⟨dU,7,none⟩=some (.slice dF bw.length dx):=(af cr.out 7).trans rfl;have uP:=aa cr.out 0;have uQ:=aa cr.out 1;have uR:=aa cr.out 2;have zT:=aa cr.out 3;have zU:=aa cr.out 4;have Cg:=aa cr.out 5;have Ch:=aa cr.out 6;have Ci:=aa cr.out 7)|((with_reducible refine aT (f:=89) rfl ?_);refine cC (some 10) rfl rfl Tryz.func89 av rfl #[.agg #[.int .u8 aI,.string bh,.bool bn,.slice dn bT.length dw,.string bz,.string bW,.bool bX,.slice dF bw.length dx]] rfl cY ?_;(with_reducible refine (bV.calls k aI bh bn _ _ bT bz bW bX _ _ bw yH _ ?bg ?bY ?eI ?gP ?iV A4.out).mono ?_);(case bg=>repeat (first|exact (Kd.dI kV.out HB.out)|(with_reducible refine Kd.dZ ?_ _)|(with_reducible refine Kd.eo ?_ _)|(with_reducible refine Kd.eZ ?_)));(case bY=>exact kW.out);(case eI=>repeat (first|exact (Kd.dI lS.out HB.out)|(with_reducible refine Kd.dZ ?_ _)|(with_reducible refine Kd.eo ?_ _)|(with_reducible refine Kd.eZ ?_)));(case gP=>exact oD.out);(case iV=>exact aW.below HG.out jg);rintro e IB ⟨rfl,hb⟩;refine ⟨_,rfl,?_⟩;have bI:=ah.mk (aR (g:=dU) (o:= .cells #[.int .u8 aI,.string bh,.bool bn,.slice dn bT.length dw,.string bz,.string bW,.bool bX,.slice dF bw.length dx] 35 (0,0)) ru hb);have bP:=ah.mk (az jg hb);clear cr;clear HB;have cr:=bI;have HB:=bP;clear bI bP;(try clear hb);(try clear hb2);(try clear hk);(try clear hi))|((with_reducible refine aT (f:=35) rfl ?_);refine cC (some 11) rfl rfl Tryz.func35 av rfl #[.string yH] rfl cY ?_;(with_reducible refine (ak.calls k yH Mv abh aef aeg aeh aei aej aek Mw _ ?bg A5.out).mono ?_);(case bg=>exact aW.below HG.out jg);rintro e n7 ⟨agQ,agR,rfl,ho0,oN,hb⟩;refine ⟨_,rfl,?_⟩;have bI:=ah.mk (Kd.gv ho0 (dK jg));have bP:=ah.mk (Kd.gv oN (dK jg));have cw:=ah.mk (aR (g:=dU) (o:= .cells #[.int .u8 aI,.string bh,.bool bn,.slice dn bT.length dw,.string bz,.string bW,.bool bX,.slice dF bw.length dx] 35 (0,0)) ru hb);have cW:=ah.mk (az jg hb);clear cr;clear HB;have yw:=bI;have yx:=bP;have cr:=cw;have HB:=cW;clear bI bP cw cW;(try clear hb);(try clear hb2);(try clear hk);(try clear hi);(try clear ho0);(try clear oN))|((with_reducible refine cK (N:=3) rfl ?_);refine cu ?hg (N:=3) ?hd (cs:=#[.int .u8 0,.string (⟨#[]⟩:ByteArray),.bool false,.slice none 0 0,.string (⟨#[]⟩:ByteArray),.string (⟨#[]⟩:ByteArray),.bool false,.slice none 0 0]) (t:=35) ?hr ?_;(case hd=>rfl);(case hg=>rfl);(case hr=>first|(go_simp;done)|(go_simp;rfl));intro jD hg CI cM hb;have bI:=ah.mk (Kd.dA J2 hb);have bP:=ah.mk (Kd.dA J3 hb);have cw:=ah.mk (aR (g:=dU) (o:= .cells #[.int .u8 aI,.string bh,.bool bn,.slice dn bT.length dw,.string bz,.string bW,.bool bX,.slice dF bw.length dx] 35 (0,0)) ru hb);have cW:=ah.mk (az jg hb);have jc:=ah.mk (cM);have nv:=ah.mk ((Dl:w.heap.size≤jD));have nI:=ah.mk ((Dl:w.heap.size≤jD));have wD:=ah.mk ((PA:dU≠jD));have yA:=ah.mk ((PB:jD≠dU));clear yw;clear yx;clear cr;clear HB;have yw:=bI;have yx:=bP;have cr:=cw;have HB:=cW;have iq:=jc;have acA:=nv;have Wv:=nI;have wH:=wD;have wI:=yA;clear bI bP cw cW jc nv nI wD yA;clear hb cM hg;have af3:=wI.out;have af4:=wH.out;have oa:CI.cell? ⟨jD,0,none⟩=some (.int .u8 0):=(af iq.out 0).trans rfl;have oc:CI.cell? ⟨jD,1,none⟩=some (.string (⟨#[]⟩:ByteArray)):=(af iq.out 1).trans rfl;have rJ:CI.cell? ⟨jD,2,none⟩=some (.bool false):=(af iq.out 2).trans rfl;have uH:CI.cell? ⟨jD,3,none⟩=some (.slice none 0 0):=(af iq.out 3).trans rfl;have uI:CI.cell? ⟨jD,4,none⟩=some (.string (⟨#[]⟩:ByteArray)):=(af iq.out 4).trans rfl;have TZ:CI.cell? ⟨jD,5,none⟩=some (.string (⟨#[]⟩:ByteArray)):=(af iq.out 5).trans rfl;have T4:CI.cell? ⟨jD,6,none⟩=some (.bool false):=(af iq.out 6).trans rfl;have T5:CI.cell? ⟨jD,7,none⟩=some (.slice none 0 0):=(af iq.out 7).trans rfl;have og:=aa iq.out 0;have om:=aa iq.out 1;have rK:=aa iq.out 2;have uJ:=aa iq.out 3;have uK:=aa iq.out 4;have T6:=aa iq.out 5;have T9:=aa iq.out 6;have Ua:=aa iq.out 7;obtain ⟨qR,qT,adp⟩:=Kd.eB yw.out;subst adp;obtain ⟨atB,atC,ao7⟩:=Kd.eB yx.out;subst ao7;have RU:CI.cell? ⟨dU,0,none⟩=some (.int .u8 aI):=(af cr.out 0).trans rfl;have RV:CI.cell? ⟨dU,1,none⟩=some (.string bh):=(af cr.out 1).trans rfl;have RX:CI.cell? ⟨dU,2,none⟩=some (.bool bn):=(af cr.out 2).trans rfl;have RY:CI.cell? ⟨dU,3,none⟩=some (.slice dn bT.length dw):=(af cr.out 3).trans rfl;have RZ:CI.cell? ⟨dU,4,none⟩=some (.string bz):=(af cr.out 4).trans rfl;have alf:CI.cell? ⟨dU,5,none⟩=some (.string bW):=(af cr.out 5).trans rfl;have alg:CI.cell? ⟨dU,6,none⟩=some (.bool bX):=(af cr.out 6).trans rfl;have alh:CI.cell? ⟨dU,7,none⟩=some (.slice dF bw.length dx):=(af cr.out 7).trans rfl;have R3:=aa cr.out 0;have R4:=aa cr.out 1;have R5:=aa cr.out 2;have R6:=aa cr.out 3;have R7:=aa cr.out 4;have ali:=aa cr.out 5;have alj:=aa cr.out 6;have alk:=aa cr.out 7))
    go_ret
    exact ⟨cU,JY⟩
   ·rw [if_neg c7] at H
    have Nb:(Mv == aI)=false:=beq_eq_false_iff_ne.mpr c7
    have WT:(Mv != aI)=true:=bne_iff_ne.mpr c7
    obtain rfl:=Option.some.inj H
    go_enter Tryz.func34,Tryz.ntmps34
    go_wp2_with (first|((with_reducible refine cK (N:=1) rfl ?_);refine cu ?hg (N:=1) ?hd (cs:=#[.int .u8 aI,.string bh,.bool bn,.slice dn bT.length dw,.string bz,.string bW,.bool bX,.slice dF bw.length dx]) (t:=35) ?hr ?_;(case hd=>rfl);(case hg=>rfl);(case hr=>first|(go_simp;done)|(go_simp;rfl));intro dU hg Qg cM hb;have bI:=ah.mk (az cA hb);have bP:=ah.mk (cM);have cw:=ah.mk ((dW:w.heap.size≤dU));have cW:=ah.mk ((dW:w.heap.size≤dU));clear HB;have HB:=bI;have cr:=bP;have Ye:=cw;have I8:=cW;clear bI bP cw cW;clear hb cM hg;have rL:Qg.cell? ⟨dU,0,none⟩=some (.int .u8 aI):=(af cr.out 0).trans rfl;have rM:Qg.cell? ⟨dU,1,none⟩=some (.string bh):=(af cr.out 1).trans rfl;have rN:Qg.cell? ⟨dU,2,none⟩=some (.bool bn):=(af cr.out 2).trans rfl;have vv:Qg.cell? ⟨dU,3,none⟩=some (.slice dn bT.length dw):=(af cr.out 3).trans rfl;have vw:Qg.cell? ⟨dU,4,none⟩=some (.string bz):=(af cr.out 4).trans rfl;have xB:Qg.cell? ⟨dU,5,none⟩=some (.string bW):=(af cr.out 5).trans rfl;have xC:Qg.cell? ⟨dU,6,none⟩=some (.bool bX):=(af cr.out 6).trans rfl;have xD:Qg.cell? ⟨dU,7,none⟩=some (.slice dF bw.length dx):=(af cr.out 7).trans rfl;have rO:=aa cr.out 0;have rP:=aa cr.out 1;have rQ:=aa cr.out 2;have vA:=aa cr.out 3;have vB:=aa cr.out 4;have xE:=aa cr.out 5;have xG:=aa cr.out 6;have xH:=aa cr.out 7)|((with_reducible refine aT (f:=90) rfl ?_);refine cC (some 6) rfl rfl Tryz.func90 av rfl #[.agg #[.int .u8 aI,.string bh,.bool bn,.slice dn bT.length dw,.string bz,.string bW,.bool bX,.slice dF bw.length dx]] rfl cY ?_;(with_reducible refine (fL.calls k aI bh bn _ _ bT bz bW bX _ _ bw true _ ?bg ?bY ?eI ?gP ?iV A2.out).mono ?_);(case bg=>repeat (first|exact (Kd.dI kV.out HB.out)|(with_reducible refine Kd.dZ ?_ _)|(with_reducible refine Kd.eo ?_ _)|(with_reducible refine Kd.eZ ?_)));(case bY=>exact kW.out);(case eI=>repeat (first|exact (Kd.dI lS.out HB.out)|(with_reducible refine Kd.dZ ?_ _)|(with_reducible refine Kd.eo ?_ _)|(with_reducible refine Kd.eZ ?_)));(case gP=>exact oD.out);(case iV=>exact aW.below HG.out jg);rintro e IC ⟨rfl,hb⟩;refine ⟨_,rfl,?_⟩;have bI:=ah.mk (aR (g:=dU) (o:= .cells #[.int .u8 aI,.string bh,.bool bn,.slice dn bT.length dw,.string bz,.string bW,.bool bX,.slice dF bw.length dx] 35 (0,0)) ru hb);have bP:=ah.mk (az jg hb);clear cr;clear HB;have cr:=bI;have HB:=bP;clear bI bP;(try clear hb);(try clear hb2);(try clear hk);(try clear hi);have FM:IC.cell? ⟨dU,0,none⟩=some (.int .u8 aI):=(af cr.out 0).trans rfl;have FN:IC.cell? ⟨dU,1,none⟩=some (.string bh):=(af cr.out 1).trans rfl;have FO:IC.cell? ⟨dU,2,none⟩=some (.bool bn):=(af cr.out 2).trans rfl;have TM:IC.cell? ⟨dU,3,none⟩=some (.slice dn bT.length dw):=(af cr.out 3).trans rfl;have TN:IC.cell? ⟨dU,4,none⟩=some (.string bz):=(af cr.out 4).trans rfl;have alm:IC.cell? ⟨dU,5,none⟩=some (.string bW):=(af cr.out 5).trans rfl;have aln:IC.cell? ⟨dU,6,none⟩=some (.bool bX):=(af cr.out 6).trans rfl;have alo:IC.cell? ⟨dU,7,none⟩=some (.slice dF bw.length dx):=(af cr.out 7).trans rfl;have FP:=aa cr.out 0;have FQ:=aa cr.out 1;have FR:=aa cr.out 2;have TP:=aa cr.out 3;have TQ:=aa cr.out 4;have alp:=aa cr.out 5;have alq:=aa cr.out 6;have alr:=aa cr.out 7)|((with_reducible refine aT (f:=89) rfl ?_);refine cC (some 10) rfl rfl Tryz.func89 av rfl #[.agg #[.int .u8 aI,.string bh,.bool bn,.slice dn bT.length dw,.string bz,.string bW,.bool bX,.slice dF bw.length dx]] rfl cY ?_;(with_reducible refine (bV.calls k aI bh bn _ _ bT bz bW bX _ _ bw yH _ ?bg ?bY ?eI ?gP ?iV A4.out).mono ?_);(case bg=>repeat (first|exact (Kd.dI kV.out HB.out)|(with_reducible refine Kd.dZ ?_ _)|(with_reducible refine Kd.eo ?_ _)|(with_reducible refine Kd.eZ ?_)));(case bY=>exact kW.out);(case eI=>repeat (first|exact (Kd.dI lS.out HB.out)|(with_reducible refine Kd.dZ ?_ _)|(with_reducible refine Kd.eo ?_ _)|(with_reducible refine Kd.eZ ?_)));(case gP=>exact oD.out);(case iV=>exact aW.below HG.out jg);rintro e Mh ⟨rfl,hb⟩;refine ⟨_,rfl,?_⟩;have bI:=ah.mk (aR (g:=dU) (o:= .cells #[.int .u8 aI,.string bh,.bool bn,.slice dn bT.length dw,.string bz,.string bW,.bool bX,.slice dF bw.length dx] 35 (0,0)) ru hb);have bP:=ah.mk (az jg hb);clear cr;clear HB;have cr:=bI;have HB:=bP;clear bI bP;(try clear hb);(try clear hb2);(try clear hk);(try clear hi))|((with_reducible refine aT (f:=35) rfl ?_);refine cC (some 11) rfl rfl Tryz.func35 av rfl #[.string yH] rfl cY ?_;(with_reducible refine (ak.calls k yH Mv abh aef aeg aeh aei aej aek Mw _ ?bg A5.out).mono ?_);(case bg=>exact aW.below HG.out jg);rintro e VR ⟨agQ,agR,rfl,ho0,oN,hb⟩;refine ⟨_,rfl,?_⟩;have bI:=ah.mk (Kd.gv ho0 (dK jg));have bP:=ah.mk (Kd.gv oN (dK jg));have cw:=ah.mk (aR (g:=dU) (o:= .cells #[.int .u8 aI,.string bh,.bool bn,.slice dn bT.length dw,.string bz,.string bW,.bool bX,.slice dF bw.length dx] 35 (0,0)) ru hb);have cW:=ah.mk (az jg hb);clear cr;clear HB;have yw:=bI;have yx:=bP;have cr:=cw;have HB:=cW;clear bI bP cw cW;(try clear hb);(try clear hb2);(try clear hk);(try clear hi);(try clear ho0);(try clear oN))|((with_reducible refine cK (N:=3) rfl ?_);refine cu ?hg (N:=3) ?hd (cs:=#[.int .u8 0,.string (⟨#[]⟩:ByteArray),.bool false,.slice none 0 0,.string (⟨#[]⟩:ByteArray),.string (⟨#[]⟩:ByteArray),.bool false,.slice none 0 0]) (t:=35) ?hr ?_;(case hd=>rfl);(case hg=>rfl);(case hr=>first|(go_simp;done)|(go_simp;rfl));intro jD hg BF cM hb;have bI:=ah.mk (Kd.dA J2 hb);have bP:=ah.mk (Kd.dA J3 hb);have cw:=ah.mk (aR (g:=dU) (o:= .cells #[.int .u8 aI,.string bh,.bool bn,.slice dn bT.length dw,.string bz,.string bW,.bool bX,.slice dF bw.length dx] 35 (0,0)) ru hb);have cW:=ah.mk (az jg hb);have jc:=ah.mk (cM);have nv:=ah.mk ((Dl:w.heap.size≤jD));have nI:=ah.mk ((Dl:w.heap.size≤jD));have wD:=ah.mk ((PA:dU≠jD));have yA:=ah.mk ((PB:jD≠dU));clear yw;clear yx;clear cr;clear HB;have yw:=bI;have yx:=bP;have cr:=cw;have HB:=cW;have iq:=jc;have acA:=nv;have Wv:=nI;have wH:=wD;have wI:=yA;clear bI bP cw cW jc nv nI wD yA;clear hb cM hg;have abU:=wI.out;have abV:=wH.out;have Fx:BF.cell? ⟨jD,0,none⟩=some (.int .u8 0):=(af iq.out 0).trans rfl;have Fy:BF.cell? ⟨jD,1,none⟩=some (.string (⟨#[]⟩:ByteArray)):=(af iq.out 1).trans rfl;have Fz:BF.cell? ⟨jD,2,none⟩=some (.bool false):=(af iq.out 2).trans rfl;have Lc:BF.cell? ⟨jD,3,none⟩=some (.slice none 0 0):=(af iq.out 3).trans rfl;have Ld:BF.cell? ⟨jD,4,none⟩=some (.string (⟨#[]⟩:ByteArray)):=(af iq.out 4).trans rfl;have Le:BF.cell? ⟨jD,5,none⟩=some (.string (⟨#[]⟩:ByteArray)):=(af iq.out 5).trans rfl;have Lf:BF.cell? ⟨jD,6,none⟩=some (.bool false):=(af iq.out 6).trans rfl;have Lg:BF.cell? ⟨jD,7,none⟩=some (.slice none 0 0):=(af iq.out 7).trans rfl;have FA:=aa iq.out 0;have FB:=aa iq.out 1;have FC:=aa iq.out 2;have Lh:=aa iq.out 3;have Li:=aa iq.out 4;have Lj:=aa iq.out 5;have Ll:=aa iq.out 6;have Lm:=aa iq.out 7;obtain ⟨atD,atE,ao8⟩:=Kd.eB yw.out;subst ao8;obtain ⟨atF,atG,ao9⟩:=Kd.eB yx.out;subst ao9;have vN:BF.cell? ⟨dU,0,none⟩=some (.int .u8 aI):=(af cr.out 0).trans rfl;have vO:BF.cell? ⟨dU,1,none⟩=some (.string bh):=(af cr.out 1).trans rfl;have xP:BF.cell? ⟨dU,2,none⟩=some (.bool bn):=(af cr.out 2).trans rfl;have Lz:BF.cell? ⟨dU,3,none⟩=some (.slice dn bT.length dw):=(af cr.out 3).trans rfl;have LA:BF.cell? ⟨dU,4,none⟩=some (.string bz):=(af cr.out 4).trans rfl;have Ui:BF.cell? ⟨dU,5,none⟩=some (.string bW):=(af cr.out 5).trans rfl;have Uj:BF.cell? ⟨dU,6,none⟩=some (.bool bX):=(af cr.out 6).trans rfl;have Uk:BF.cell? ⟨dU,7,none⟩=some (.slice dF bw.length dx):=(af cr.out 7).trans rfl;have vP:=aa cr.out 0;have vQ:=aa cr.out 1;have xQ:=aa cr.out 2;have LB:=aa cr.out 3;have LC:=aa cr.out 4;have Ul:=aa cr.out 5;have Um:=aa cr.out 6;have Un:=aa cr.out 7))
    go_ret
    exact ⟨cU,JY⟩
  ·rw [if_neg c6] at H
   have oW:(Mw == 0)=false:=beq_eq_false_iff_ne.mpr c6
   have yS:(Mw != 0)=true:=bne_iff_ne.mpr c6
   obtain rfl:=Option.some.inj H
   go_enter Tryz.func34,Tryz.ntmps34
   go_wp2_with (first|((with_reducible refine cK (N:=1) rfl ?_);refine cu ?hg (N:=1) ?hd (cs:=#[.int .u8 aI,.string bh,.bool bn,.slice dn bT.length dw,.string bz,.string bW,.bool bX,.slice dF bw.length dx]) (t:=35) ?hr ?_;(case hd=>rfl);(case hg=>rfl);(case hr=>first|(go_simp;done)|(go_simp;rfl));intro dU hg Ek cM hb;have bI:=ah.mk (az cA hb);have bP:=ah.mk (cM);have cw:=ah.mk ((dW:w.heap.size≤dU));have cW:=ah.mk ((dW:w.heap.size≤dU));clear HB;have HB:=bI;have cr:=bP;have Ye:=cw;have I8:=cW;clear bI bP cw cW;clear hb cM hg;have S7:Ek.cell? ⟨dU,0,none⟩=some (.int .u8 aI):=(af cr.out 0).trans rfl;have S8:Ek.cell? ⟨dU,1,none⟩=some (.string bh):=(af cr.out 1).trans rfl;have aae:Ek.cell? ⟨dU,2,none⟩=some (.bool bn):=(af cr.out 2).trans rfl;have aaf:Ek.cell? ⟨dU,3,none⟩=some (.slice dn bT.length dw):=(af cr.out 3).trans rfl;have aag:Ek.cell? ⟨dU,4,none⟩=some (.string bz):=(af cr.out 4).trans rfl;have als:Ek.cell? ⟨dU,5,none⟩=some (.string bW):=(af cr.out 5).trans rfl;have alu:Ek.cell? ⟨dU,6,none⟩=some (.bool bX):=(af cr.out 6).trans rfl;have alv:Ek.cell? ⟨dU,7,none⟩=some (.slice dF bw.length dx):=(af cr.out 7).trans rfl;have S9:=aa cr.out 0;have Ta:=aa cr.out 1;have aah:=aa cr.out 2;have aai:=aa cr.out 3;have aaj:=aa cr.out 4;have alx:=aa cr.out 5;have aly:=aa cr.out 6;have alz:=aa cr.out 7)|((with_reducible refine aT (f:=90) rfl ?_);refine cC (some 6) rfl rfl Tryz.func90 av rfl #[.agg #[.int .u8 aI,.string bh,.bool bn,.slice dn bT.length dw,.string bz,.string bW,.bool bX,.slice dF bw.length dx]] rfl cY ?_;(with_reducible refine (fL.calls k aI bh bn _ _ bT bz bW bX _ _ bw true _ ?bg ?bY ?eI ?gP ?iV A2.out).mono ?_);(case bg=>repeat (first|exact (Kd.dI kV.out HB.out)|(with_reducible refine Kd.dZ ?_ _)|(with_reducible refine Kd.eo ?_ _)|(with_reducible refine Kd.eZ ?_)));(case bY=>exact kW.out);(case eI=>repeat (first|exact (Kd.dI lS.out HB.out)|(with_reducible refine Kd.dZ ?_ _)|(with_reducible refine Kd.eo ?_ _)|(with_reducible refine Kd.eZ ?_)));(case gP=>exact oD.out);(case iV=>exact aW.below HG.out jg);rintro e VU ⟨rfl,hb⟩;refine ⟨_,rfl,?_⟩;have bI:=ah.mk (aR (g:=dU) (o:= .cells #[.int .u8 aI,.string bh,.bool bn,.slice dn bT.length dw,.string bz,.string bW,.bool bX,.slice dF bw.length dx] 35 (0,0)) ru hb);have bP:=ah.mk (az jg hb);clear cr;clear HB;have cr:=bI;have HB:=bP;clear bI bP;(try clear hb);(try clear hb2);(try clear hk);(try clear hi);have Cq:VU.cell? ⟨dU,0,none⟩=some (.int .u8 aI):=(af cr.out 0).trans rfl;have Cr:VU.cell? ⟨dU,1,none⟩=some (.string bh):=(af cr.out 1).trans rfl;have Cs:VU.cell? ⟨dU,2,none⟩=some (.bool bn):=(af cr.out 2).trans rfl;have SR:VU.cell? ⟨dU,3,none⟩=some (.slice dn bT.length dw):=(af cr.out 3).trans rfl;have SS:VU.cell? ⟨dU,4,none⟩=some (.string bz):=(af cr.out 4).trans rfl;have ZF:VU.cell? ⟨dU,5,none⟩=some (.string bW):=(af cr.out 5).trans rfl;have ZG:VU.cell? ⟨dU,6,none⟩=some (.bool bX):=(af cr.out 6).trans rfl;have ZH:VU.cell? ⟨dU,7,none⟩=some (.slice dF bw.length dx):=(af cr.out 7).trans rfl;have Ct:=aa cr.out 0;have Cu:=aa cr.out 1;have Cv:=aa cr.out 2;have SU:=aa cr.out 3;have SV:=aa cr.out 4;have ZI:=aa cr.out 5;have ZJ:=aa cr.out 6;have ZK:=aa cr.out 7)|((with_reducible refine aT (f:=89) rfl ?_);refine cC (some 10) rfl rfl Tryz.func89 av rfl #[.agg #[.int .u8 aI,.string bh,.bool bn,.slice dn bT.length dw,.string bz,.string bW,.bool bX,.slice dF bw.length dx]] rfl cY ?_;(with_reducible refine (bV.calls k aI bh bn _ _ bT bz bW bX _ _ bw yH _ ?bg ?bY ?eI ?gP ?iV A4.out).mono ?_);(case bg=>repeat (first|exact (Kd.dI kV.out HB.out)|(with_reducible refine Kd.dZ ?_ _)|(with_reducible refine Kd.eo ?_ _)|(with_reducible refine Kd.eZ ?_)));(case bY=>exact kW.out);(case eI=>repeat (first|exact (Kd.dI lS.out HB.out)|(with_reducible refine Kd.dZ ?_ _)|(with_reducible refine Kd.eo ?_ _)|(with_reducible refine Kd.eZ ?_)));(case gP=>exact oD.out);(case iV=>exact aW.below HG.out jg);rintro e w36 ⟨rfl,hb⟩;refine ⟨_,rfl,?_⟩;have bI:=ah.mk (aR (g:=dU) (o:= .cells #[.int .u8 aI,.string bh,.bool bn,.slice dn bT.length dw,.string bz,.string bW,.bool bX,.slice dF bw.length dx] 35 (0,0)) ru hb);have bP:=ah.mk (az jg hb);clear cr;clear HB;have cr:=bI;have HB:=bP;clear bI bP;(try clear hb);(try clear hb2);(try clear hk);(try clear hi))|((with_reducible refine aT (f:=35) rfl ?_);refine cC (some 11) rfl rfl Tryz.func35 av rfl #[.string yH] rfl cY ?_;(with_reducible refine (ak.calls k yH Mv abh aef aeg aeh aei aej aek Mw _ ?bg A5.out).mono ?_);(case bg=>exact aW.below HG.out jg);rintro e w37 ⟨agQ,agR,rfl,ho0,oN,hb⟩;refine ⟨_,rfl,?_⟩;have bI:=ah.mk (Kd.gv ho0 (dK jg));have bP:=ah.mk (Kd.gv oN (dK jg));have cw:=ah.mk (aR (g:=dU) (o:= .cells #[.int .u8 aI,.string bh,.bool bn,.slice dn bT.length dw,.string bz,.string bW,.bool bX,.slice dF bw.length dx] 35 (0,0)) ru hb);have cW:=ah.mk (az jg hb);clear cr;clear HB;have yw:=bI;have yx:=bP;have cr:=cw;have HB:=cW;clear bI bP cw cW;(try clear hb);(try clear hb2);(try clear hk);(try clear hi);(try clear ho0);(try clear oN))|((with_reducible refine cK (N:=3) rfl ?_);refine cu ?hg (N:=3) ?hd (cs:=#[.int .u8 0,.string (⟨#[]⟩:ByteArray),.bool false,.slice none 0 0,.string (⟨#[]⟩:ByteArray),.string (⟨#[]⟩:ByteArray),.bool false,.slice none 0 0]) (t:=35) ?hr ?_;(case hd=>rfl);(case hg=>rfl);(case hr=>first|(go_simp;done)|(go_simp;rfl));intro jD hg VT cM hb;have bI:=ah.mk (Kd.dA J2 hb);have bP:=ah.mk (Kd.dA J3 hb);have cw:=ah.mk (aR (g:=dU) (o:= .cells #[.int .u8 aI,.string bh,.bool bn,.slice dn bT.length dw,.string bz,.string bW,.bool bX,.slice dF bw.length dx] 35 (0,0)) ru hb);have cW:=ah.mk (az jg hb);have jc:=ah.mk (cM);have nv:=ah.mk ((Dl:w.heap.size≤jD));have nI:=ah.mk ((Dl:w.heap.size≤jD));have wD:=ah.mk ((PA:dU≠jD));have yA:=ah.mk ((PB:jD≠dU));clear yw;clear yx;clear cr;clear HB;have yw:=bI;have yx:=bP;have cr:=cw;have HB:=cW;have iq:=jc;have acA:=nv;have Wv:=nI;have wH:=wD;have wI:=yA;clear bI bP cw cW jc nv nI wD yA;clear hb cM hg;have af6:=wI.out;have af7:=wH.out;have Tp:VT.cell? ⟨jD,0,none⟩=some (.int .u8 0):=(af iq.out 0).trans rfl;have Tq:VT.cell? ⟨jD,1,none⟩=some (.string (⟨#[]⟩:ByteArray)):=(af iq.out 1).trans rfl;have Tt:VT.cell? ⟨jD,2,none⟩=some (.bool false):=(af iq.out 2).trans rfl;have Tu:VT.cell? ⟨jD,3,none⟩=some (.slice none 0 0):=(af iq.out 3).trans rfl;have Tv:VT.cell? ⟨jD,4,none⟩=some (.string (⟨#[]⟩:ByteArray)):=(af iq.out 4).trans rfl;have aba:VT.cell? ⟨jD,5,none⟩=some (.string (⟨#[]⟩:ByteArray)):=(af iq.out 5).trans rfl;have abb:VT.cell? ⟨jD,6,none⟩=some (.bool false):=(af iq.out 6).trans rfl;have abc:VT.cell? ⟨jD,7,none⟩=some (.slice none 0 0):=(af iq.out 7).trans rfl;have Tw:=aa iq.out 0;have Tx:=aa iq.out 1;have Ty:=aa iq.out 2;have Tz:=aa iq.out 3;have TA:=aa iq.out 4;have abd:=aa iq.out 5;have abe:=aa iq.out 6;have abf:=aa iq.out 7;obtain ⟨atH,atI,apa⟩:=Kd.eB yw.out;subst apa;obtain ⟨atJ,atK,apb⟩:=Kd.eB yx.out;subst apb))
   go_ret
   exact ⟨cU,JY⟩
 ·replace c3:=Bool.eq_false_iff.mpr c3
  subst c3
  have H1:(some false)=some r:=by rw [if_neg (show ¬ (false=true) by decide)] at H;exact H
  clear H
  have H:=H1
  clear H1
  obtain rfl:=Option.some.inj H
  go_enter Tryz.func34,Tryz.ntmps34
  go_wp2_with (first|((with_reducible refine cK (N:=1) rfl ?_);refine cu ?hg (N:=1) ?hd (cs:=#[.int .u8 aI,.string bh,.bool bn,.slice dn bT.length dw,.string bz,.string bW,.bool bX,.slice dF bw.length dx]) (t:=35) ?hr ?_;(case hd=>rfl);(case hg=>rfl);(case hr=>first|(go_simp;done)|(go_simp;rfl));intro dU hg TC cM hb;have bI:=ah.mk (az cA hb);have bP:=ah.mk (cM);have cw:=ah.mk ((dW:w.heap.size≤dU));have cW:=ah.mk ((dW:w.heap.size≤dU));clear HB;have HB:=bI;have cr:=bP;have Ye:=cw;have I8:=cW;clear bI bP cw cW;clear hb cM hg;have alA:TC.cell? ⟨dU,0,none⟩=some (.int .u8 aI):=(af cr.out 0).trans rfl;have alB:TC.cell? ⟨dU,1,none⟩=some (.string bh):=(af cr.out 1).trans rfl;have alC:TC.cell? ⟨dU,2,none⟩=some (.bool bn):=(af cr.out 2).trans rfl;have alD:TC.cell? ⟨dU,3,none⟩=some (.slice dn bT.length dw):=(af cr.out 3).trans rfl;have alE:TC.cell? ⟨dU,4,none⟩=some (.string bz):=(af cr.out 4).trans rfl;have alF:TC.cell? ⟨dU,5,none⟩=some (.string bW):=(af cr.out 5).trans rfl;have alG:TC.cell? ⟨dU,6,none⟩=some (.bool bX):=(af cr.out 6).trans rfl;have alH:TC.cell? ⟨dU,7,none⟩=some (.slice dF bw.length dx):=(af cr.out 7).trans rfl;have alI:=aa cr.out 0;have alJ:=aa cr.out 1;have alK:=aa cr.out 2;have alL:=aa cr.out 3;have alM:=aa cr.out 4;have alN:=aa cr.out 5;have alO:=aa cr.out 6;have alP:=aa cr.out 7)|((with_reducible refine aT (f:=90) rfl ?_);refine cC (some 6) rfl rfl Tryz.func90 av rfl #[.agg #[.int .u8 aI,.string bh,.bool bn,.slice dn bT.length dw,.string bz,.string bW,.bool bX,.slice dF bw.length dx]] rfl cY ?_;(with_reducible refine (fL.calls k aI bh bn _ _ bT bz bW bX _ _ bw false _ ?bg ?bY ?eI ?gP ?iV A2.out).mono ?_);(case bg=>repeat (first|exact (Kd.dI kV.out HB.out)|(with_reducible refine Kd.dZ ?_ _)|(with_reducible refine Kd.eo ?_ _)|(with_reducible refine Kd.eZ ?_)));(case bY=>exact kW.out);(case eI=>repeat (first|exact (Kd.dI lS.out HB.out)|(with_reducible refine Kd.dZ ?_ _)|(with_reducible refine Kd.eo ?_ _)|(with_reducible refine Kd.eZ ?_)));(case gP=>exact oD.out);(case iV=>exact aW.below HG.out jg);rintro e w45 ⟨rfl,hb⟩;refine ⟨_,rfl,?_⟩;have bI:=ah.mk (aR (g:=dU) (o:= .cells #[.int .u8 aI,.string bh,.bool bn,.slice dn bT.length dw,.string bz,.string bW,.bool bX,.slice dF bw.length dx] 35 (0,0)) ru hb);have bP:=ah.mk (az jg hb);clear cr;clear HB;have cr:=bI;have HB:=bP;clear bI bP;(try clear hb);(try clear hb2);(try clear hk);(try clear hi)))
  go_ret
  exact ⟨cU,jg⟩
def gQ.f (k:Nat) (aI:Int) (bh:ByteArray) (bn:Bool) (bT:List ByteArray) (bz:ByteArray) (bW:ByteArray) (bX:Bool) (bw:List (gI)):Option (ByteArray×Int):=(jm.f k aI bh bn bT bz bW bX bw).bind fun Vg=>(if Vg=true then ((bV.f k aI bh bn bT bz bW bX bw).bind fun IX=>(some (IX,0))) else (some ((⟨#[]⟩:ByteArray),2)))
theorem gQ.calls (k:Nat) (aI:Int) (bh:ByteArray) (bn:Bool) (dn:Option Addr) (dw:Nat) (bT:List ByteArray) (bz:ByteArray) (bW:ByteArray) (bX:Bool) (dF:Option Addr) (dx:Nat) (bw:List (gI)) (r1:ByteArray) (r2:Int) (w:World) (sw:Kd.C Kd.string w dn bT.length bT) (sx:bT.length≤dw) (sy:Kd.C BC w dF bw.length bw) (sA:bw.length≤dx) (hG:aW w) (h:gQ.f k aI bh bn bT bz bW bX bw=some (r1,r2)):
 Calls Tryz.prog 33 #[.agg #[.int .u8 aI,.string bh,.bool bn,.slice dn bT.length dw,.string bz,.string bW,.bool bX,.slice dF bw.length dx]] w fun e w'=>e= .returned (.tuple #[.string r1,.int .i64 r2])∧Below w.heap.size w w':=by
 have Na:=Tryz.underlying35
 have kV:=ah.mk sw
 have kW:=ah.mk sx
 clear sw sx
 have lS:=ah.mk sy
 have oD:=ah.mk sA
 clear sy sA
 have HB:=ah.mk (Below.refl w.heap.size w)
 have HG:=ah.mk hG
 clear hG
 have H:((jm.f k aI bh bn bT bz bW bX bw).bind fun Vg=>(if Vg=true then ((bV.f k aI bh bn bT bz bW bX bw).bind fun IX=>(some (IX,0))) else (some ((⟨#[]⟩:ByteArray),2))))=some (r1,r2):=h
 clear h
 replace H:=Option.bind_eq_some_iff.mp H
 obtain ⟨Vg,oL,H⟩:=H
 replace H:(if Vg=true then ((bV.f k aI bh bn bT bz bW bX bw).bind fun IX=>(some (IX,0))) else (some ((⟨#[]⟩:ByteArray),2)))=some (r1,r2):=H
 have A2:=ah.mk oL
 clear oL
 by_cases c3:Vg=true
 ·subst c3
  have H1:((bV.f k aI bh bn bT bz bW bX bw).bind fun IX=>(some (IX,0)))=some (r1,r2):=by rw [if_pos rfl] at H;exact H
  clear H
  have H:=H1
  clear H1
  replace H:=Option.bind_eq_some_iff.mp H
  obtain ⟨IX,Ef,H⟩:=H
  replace H:(some (IX,0))=some (r1,r2):=H
  have A4:=ah.mk Ef
  clear Ef
  simp only [Option.some.injEq,Prod.mk.injEq] at H
  obtain ⟨rfl,rfl⟩:=H
  go_enter Tryz.func33,Tryz.ntmps33
  go_wp2_with (first|((with_reducible refine cK (N:=1) rfl ?_);refine cu ?hg (N:=1) ?hd (cs:=#[.int .u8 aI,.string bh,.bool bn,.slice dn bT.length dw,.string bz,.string bW,.bool bX,.slice dF bw.length dx]) (t:=35) ?hr ?_;(case hd=>rfl);(case hg=>rfl);(case hr=>first|(go_simp;done)|(go_simp;rfl));intro kT hg w5 cM hb;have bI:=ah.mk (az cA hb);have bP:=ah.mk (cM);have cw:=ah.mk ((dW:w.heap.size≤kT));have cW:=ah.mk ((dW:w.heap.size≤kT));clear HB;have HB:=bI;have gD:=bP;have agS:=cw;have abD:=cW;clear bI bP cw cW;clear hb cM hg;have Xa:w5.cell? ⟨kT,0,none⟩=some (.int .u8 aI):=(af gD.out 0).trans rfl;have Xb:w5.cell? ⟨kT,1,none⟩=some (.string bh):=(af gD.out 1).trans rfl;have ad7:w5.cell? ⟨kT,2,none⟩=some (.bool bn):=(af gD.out 2).trans rfl;have ad8:w5.cell? ⟨kT,3,none⟩=some (.slice dn bT.length dw):=(af gD.out 3).trans rfl;have ad9:w5.cell? ⟨kT,4,none⟩=some (.string bz):=(af gD.out 4).trans rfl;have apc:w5.cell? ⟨kT,5,none⟩=some (.string bW):=(af gD.out 5).trans rfl;have apd:w5.cell? ⟨kT,6,none⟩=some (.bool bX):=(af gD.out 6).trans rfl;have ape:w5.cell? ⟨kT,7,none⟩=some (.slice dF bw.length dx):=(af gD.out 7).trans rfl;have Xc:=aa gD.out 0;have Xd:=aa gD.out 1;have aea:=aa gD.out 2;have aeb:=aa gD.out 3;have aec:=aa gD.out 4;have apf:=aa gD.out 5;have apg:=aa gD.out 6;have aph:=aa gD.out 7)|((with_reducible refine aT (f:=34) rfl ?_);refine cC (some 5) rfl rfl Tryz.func34 av rfl #[.agg #[.int .u8 aI,.string bh,.bool bn,.slice dn bT.length dw,.string bz,.string bW,.bool bX,.slice dF bw.length dx]] rfl cY ?_;(with_reducible refine (jm.calls k aI bh bn _ _ bT bz bW bX _ _ bw true _ ?bg ?bY ?eI ?gP ?iV A2.out).mono ?_);(case bg=>repeat (first|exact (Kd.dI kV.out HB.out)|(with_reducible refine Kd.dZ ?_ _)|(with_reducible refine Kd.eo ?_ _)|(with_reducible refine Kd.eZ ?_)));(case bY=>exact kW.out);(case eI=>repeat (first|exact (Kd.dI lS.out HB.out)|(with_reducible refine Kd.dZ ?_ _)|(with_reducible refine Kd.eo ?_ _)|(with_reducible refine Kd.eZ ?_)));(case gP=>exact oD.out);(case iV=>exact aW.below HG.out yO);rintro e w7 ⟨rfl,hb⟩;refine ⟨_,rfl,?_⟩;have bI:=ah.mk (aR (g:=kT) (o:= .cells #[.int .u8 aI,.string bh,.bool bn,.slice dn bT.length dw,.string bz,.string bW,.bool bX,.slice dF bw.length dx] 35 (0,0)) J1 hb);have bP:=ah.mk (az yO hb);clear gD;clear HB;have gD:=bI;have HB:=bP;clear bI bP;(try clear hb);(try clear hb2);(try clear hk);(try clear hi);have yT:w7.cell? ⟨kT,0,none⟩=some (.int .u8 aI):=(af gD.out 0).trans rfl;have yU:w7.cell? ⟨kT,1,none⟩=some (.string bh):=(af gD.out 1).trans rfl;have Du:w7.cell? ⟨kT,2,none⟩=some (.bool bn):=(af gD.out 2).trans rfl;have GG:w7.cell? ⟨kT,3,none⟩=some (.slice dn bT.length dw):=(af gD.out 3).trans rfl;have GH:w7.cell? ⟨kT,4,none⟩=some (.string bz):=(af gD.out 4).trans rfl;have adT:w7.cell? ⟨kT,5,none⟩=some (.string bW):=(af gD.out 5).trans rfl;have adU:w7.cell? ⟨kT,6,none⟩=some (.bool bX):=(af gD.out 6).trans rfl;have adV:w7.cell? ⟨kT,7,none⟩=some (.slice dF bw.length dx):=(af gD.out 7).trans rfl;have yV:=aa gD.out 0;have yX:=aa gD.out 1;have Dv:=aa gD.out 2;have GI:=aa gD.out 3;have GJ:=aa gD.out 4;have adW:=aa gD.out 5;have adX:=aa gD.out 6;have adY:=aa gD.out 7)|((with_reducible refine aT (f:=89) rfl ?_);refine cC (some 8) rfl rfl Tryz.func89 av rfl #[.agg #[.int .u8 aI,.string bh,.bool bn,.slice dn bT.length dw,.string bz,.string bW,.bool bX,.slice dF bw.length dx]] rfl cY ?_;(with_reducible refine (bV.calls k aI bh bn _ _ bT bz bW bX _ _ bw IX _ ?bg ?bY ?eI ?gP ?iV A4.out).mono ?_);(case bg=>repeat (first|exact (Kd.dI kV.out HB.out)|(with_reducible refine Kd.dZ ?_ _)|(with_reducible refine Kd.eo ?_ _)|(with_reducible refine Kd.eZ ?_)));(case bY=>exact kW.out);(case eI=>repeat (first|exact (Kd.dI lS.out HB.out)|(with_reducible refine Kd.dZ ?_ _)|(with_reducible refine Kd.eo ?_ _)|(with_reducible refine Kd.eZ ?_)));(case gP=>exact oD.out);(case iV=>exact aW.below HG.out yO);rintro e w9 ⟨rfl,hb⟩;refine ⟨_,rfl,?_⟩;have bI:=ah.mk (aR (g:=kT) (o:= .cells #[.int .u8 aI,.string bh,.bool bn,.slice dn bT.length dw,.string bz,.string bW,.bool bX,.slice dF bw.length dx] 35 (0,0)) J1 hb);have bP:=ah.mk (az yO hb);clear gD;clear HB;have gD:=bI;have HB:=bP;clear bI bP;(try clear hb);(try clear hb2);(try clear hk);(try clear hi)))
  go_ret2
  exact ⟨cU,yO⟩
 ·replace c3:=Bool.eq_false_iff.mpr c3
  subst c3
  have H1:(some ((⟨#[]⟩:ByteArray),2))=some (r1,r2):=by rw [if_neg (show ¬ (false=true) by decide)] at H;exact H
  clear H
  have H:=H1
  clear H1
  simp only [Option.some.injEq,Prod.mk.injEq] at H
  obtain ⟨rfl,rfl⟩:=H
  go_enter Tryz.func33,Tryz.ntmps33
  go_wp2_with (first|((with_reducible refine cK (N:=1) rfl ?_);refine cu ?hg (N:=1) ?hd (cs:=#[.int .u8 aI,.string bh,.bool bn,.slice dn bT.length dw,.string bz,.string bW,.bool bX,.slice dF bw.length dx]) (t:=35) ?hr ?_;(case hd=>rfl);(case hg=>rfl);(case hr=>first|(go_simp;done)|(go_simp;rfl));intro kT hg vI cM hb;have bI:=ah.mk (az cA hb);have bP:=ah.mk (cM);have cw:=ah.mk ((dW:w.heap.size≤kT));have cW:=ah.mk ((dW:w.heap.size≤kT));clear HB;have HB:=bI;have gD:=bP;have agS:=cw;have abD:=cW;clear bI bP cw cW;clear hb cM hg;have uM:vI.cell? ⟨kT,0,none⟩=some (.int .u8 aI):=(af gD.out 0).trans rfl;have uN:vI.cell? ⟨kT,1,none⟩=some (.string bh):=(af gD.out 1).trans rfl;have uO:vI.cell? ⟨kT,2,none⟩=some (.bool bn):=(af gD.out 2).trans rfl;have zR:vI.cell? ⟨kT,3,none⟩=some (.slice dn bT.length dw):=(af gD.out 3).trans rfl;have zS:vI.cell? ⟨kT,4,none⟩=some (.string bz):=(af gD.out 4).trans rfl;have Cc:vI.cell? ⟨kT,5,none⟩=some (.string bW):=(af gD.out 5).trans rfl;have Ce:vI.cell? ⟨kT,6,none⟩=some (.bool bX):=(af gD.out 6).trans rfl;have Cf:vI.cell? ⟨kT,7,none⟩=some (.slice dF bw.length dx):=(af gD.out 7).trans rfl;have uP:=aa gD.out 0;have uQ:=aa gD.out 1;have uR:=aa gD.out 2;have zT:=aa gD.out 3;have zU:=aa gD.out 4;have Cg:=aa gD.out 5;have Ch:=aa gD.out 6;have Ci:=aa gD.out 7)|((with_reducible refine aT (f:=34) rfl ?_);refine cC (some 5) rfl rfl Tryz.func34 av rfl #[.agg #[.int .u8 aI,.string bh,.bool bn,.slice dn bT.length dw,.string bz,.string bW,.bool bX,.slice dF bw.length dx]] rfl cY ?_;(with_reducible refine (jm.calls k aI bh bn _ _ bT bz bW bX _ _ bw false _ ?bg ?bY ?eI ?gP ?iV A2.out).mono ?_);(case bg=>repeat (first|exact (Kd.dI kV.out HB.out)|(with_reducible refine Kd.dZ ?_ _)|(with_reducible refine Kd.eo ?_ _)|(with_reducible refine Kd.eZ ?_)));(case bY=>exact kW.out);(case eI=>repeat (first|exact (Kd.dI lS.out HB.out)|(with_reducible refine Kd.dZ ?_ _)|(with_reducible refine Kd.eo ?_ _)|(with_reducible refine Kd.eZ ?_)));(case gP=>exact oD.out);(case iV=>exact aW.below HG.out yO);rintro e IB ⟨rfl,hb⟩;refine ⟨_,rfl,?_⟩;have bI:=ah.mk (aR (g:=kT) (o:= .cells #[.int .u8 aI,.string bh,.bool bn,.slice dn bT.length dw,.string bz,.string bW,.bool bX,.slice dF bw.length dx] 35 (0,0)) J1 hb);have bP:=ah.mk (az yO hb);clear gD;clear HB;have gD:=bI;have HB:=bP;clear bI bP;(try clear hb);(try clear hb2);(try clear hk);(try clear hi)))
  go_ret2
  exact ⟨cU,yO⟩
end Go.Proofs.YtokpnfljjjjikaaGreatDoor.n9
