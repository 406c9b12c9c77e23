import Derived.Test.YtokpnfljjjjikaaGreatDoorQCbx17
import Derived.Test.YtokpnfljjjjikaaGreatDoorETurned
namespace Go.Proofs.YtokpnfljjjjikaaGreatDoor.n9
open Go.RowKit Go.Proofs.aj.bQ Go.Proofs.aj.gf Go.Proofs.aj.cT
attribute [local go_sem] jt iY kQ kJ iJ iK ju jv
set_option linter.unusedVariables false
set_option linter.unusedSimpArgs false
mutual
def aC.j0:Nat→List Int→ByteArray→ByteArray→ByteArray→Bool→Int→ByteArray→Bool→List ByteArray→ByteArray→ByteArray→Bool→List (gI)→Option (Bool)
 | 0,_,_,_,_,_,_,_,_,_,_,_,_,_ =>none
 |k + 1,x1,x5,x7,x8,x47,rT,tI,rU,rV,rW,rX,rY,qM=>if x47=true then (if rT=3 then (aC.j1 k x1 x5 x7 (⟨#[32,70,82,79,77,58]⟩:ByteArray) rT tI rU rV rW rX rY qM) else (aC.j1 k x1 x5 x7 (⟨#[32,84,79,58]⟩:ByteArray) rT tI rU rV rW rX rY qM)) else ((ak.f k x8).bind fun lJ=>(if (x8.size:Int)=(x5.size:Int) then (if lJ.2.2.2.2.2.2.2.2=0 then ((aZ.f k rT tI rU rV rW rX rY qM lJ.1 lJ.2.1 lJ.2.2.1 lJ.2.2.2.1 lJ.2.2.2.2.1 lJ.2.2.2.2.2.1 lJ.2.2.2.2.2.2.1 lJ.2.2.2.2.2.2.2.1).bind fun IY=>(if IY=true then ((bO.f k).bind fun C6=>(some C6)) else (some false))) else (some false)) else (some false)))
def aC.j1:Nat→List Int→ByteArray→ByteArray→ByteArray→Int→ByteArray→Bool→List ByteArray→ByteArray→ByteArray→Bool→List (gI)→Option (Bool)
 | 0,_,_,_,_,_,_,_,_,_,_,_,_ =>none
 |k + 1,x1,x5,x7,x9,rT,tI,rU,rV,rW,rX,rY,qM=>(kf.f k rU rV rW rX rY).bind fun Yg=>(if Yg.2=0 then (if x7.size + x9.size≤9223372036854775807 then ((dY.f (x7 ++ x9) x1).bind fun DC=>(if DC.size + Yg.1.size≤9223372036854775807 then (aC.l0 k x1 x5 (DC ++ Yg.1) qM (qM.length:Int) 0 rT tI rU rV rW rX rY qM) else (none))) else (none)) else (none))
def aC.l0:Nat→List Int→ByteArray→ByteArray→List (gI)→Int→Int→Int→ByteArray→Bool→List ByteArray→ByteArray→ByteArray→Bool→List (gI)→Option (Bool)
 | 0,_,_,_,_,_,_,_,_,_,_,_,_,_,_ =>none
 |k + 1,x1,x5,x8,x67,x68,Yh,rT,tI,rU,rV,rW,rX,rY,qM=>if Yh < x68 then (if 0≤Yh then (if Yh < (x67.length:Int) then (if 1 + ((cv x67 Yh).f0).size≤9223372036854775807 then ((dY.f ((⟨#[32]⟩:ByteArray) ++ ((cv x67 Yh).f0)) x1).bind fun sS=>(if x8.size + sS.size≤9223372036854775807 then (if (cv x67 Yh).f2=true then (if 1 + ((cv x67 Yh).f1).size≤9223372036854775807 then (if (x8 ++ sS).size + ((⟨#[61]⟩:ByteArray) ++ ((cv x67 Yh).f1)).size≤9223372036854775807 then (aC.l0 k x1 x5 ((x8 ++ sS) ++ ((⟨#[61]⟩:ByteArray) ++ ((cv x67 Yh).f1))) x67 x68 (wrap64 (Yh + 1)) rT tI rU rV rW rX rY qM) else (none)) else (none)) else (aC.l0 k x1 x5 (x8 ++ sS) x67 x68 (wrap64 (Yh + 1)) rT tI rU rV rW rX rY qM)) else (none))) else (none)) else (none)) else (none)) else ((ak.f k x8).bind fun C7=>(if (x8.size:Int)=(x5.size:Int) then (if C7.2.2.2.2.2.2.2.2=0 then ((aZ.f k rT tI rU rV rW rX rY qM C7.1 C7.2.1 C7.2.2.1 C7.2.2.2.1 C7.2.2.2.2.1 C7.2.2.2.2.2.1 C7.2.2.2.2.2.2.1 C7.2.2.2.2.2.2.2.1).bind fun Vh=>(if Vh=true then ((bO.f k).bind fun IZ=>(some IZ)) else (some false))) else (some false)) else (some false)))
end
def aC.f (k:Nat) (aI:Int) (bh:ByteArray) (bn:Bool) (bT:List ByteArray) (bz:ByteArray) (bW:ByteArray) (bX:Bool) (bw:List (gI)) (l1:List Int):Option (Bool):=(gQ.f k aI bh bn bT bz bW bX bw).bind fun nV=>(if nV.2=0 then ((gH.f aI).bind fun fT=>(if (nV.1.size:Int) < (fT.size:Int) then (none) else ((dY.f fT l1).bind fun kg=>(if 0≤(fT.size:Int) then (if (fT.size:Int)≤(nV.1.size:Int) then (if kg.size + (nV.1.extract ((fT.size:Int):Int).toNat nV.1.size).size≤9223372036854775807 then (if aI=3 then (aC.j0 k l1 nV.1 fT (kg ++ (nV.1.extract ((fT.size:Int):Int).toNat nV.1.size)) true aI bh bn bT bz bW bX bw) else (aC.j0 k l1 nV.1 fT (kg ++ (nV.1.extract ((fT.size:Int):Int).toNat nV.1.size)) (aI == 4) aI bh bn bT bz bW bX bw)) else (none)) else (none)) else (none))))) else ((bO.f k).bind fun Og=>(some Og)))
def aC.T7:Bool×List (List Nat×List Nat):=(true,[([],[]),([],[]),([0,1],[0,1]),([],[]),([],[]),([4],[4]),([3,5],[3,5]),([2,6],[2,6]),([7,2,0,1,2,3,4,5,6,7],[7])])
def aC.B7:List Nat:=[0,0,3,0,0,16,56,127,255]
theorem aC.apk:tA .any (opsOf Tryz.f9 7)=aC.T7:=by kernel_rfl
theorem aC.agT:uC aC.T7.2 aC.B7=true:=by kernel_rfl
set_option maxHeartbeats 8000000 in
set_option maxRecDepth 100000 in
theorem aC.calls (k:Nat) (aI:Int) (bh:ByteArray) (bn:Bool) (dn:Option Addr) (dw:Nat) (bT:List ByteArray) (bz:ByteArray) (bW:ByteArray) (bX:Bool) (dF:Option Addr) (dx:Nat) (bw:List (gI)) (A1:Option Addr) (c1:Nat) (l1:List Int) (r:Bool) (w:World) (sw:Kd.C Kd.string w dn bT.length bT) (sx:bT.length≤dw) (sy:Kd.C BC w dF bw.length bw) (sA:bw.length≤dx) (hr1:Kd.C (Kd.int .u8) w A1 l1.length l1) (hc1:l1.length≤c1) (hG:aW w) (h:aC.f k aI bh bn bT bz bW bX bw l1=some r):
 Calls Tryz.prog 9 #[.agg #[.int .u8 aI,.string bh,.bool bn,.slice dn bT.length dw,.string bz,.string bW,.bool bX,.slice dF bw.length dx],.slice A1 l1.length c1] w fun e w'=>e= .returned (.bool r)∧Below w.heap.size w w':=by
 have Na:=Tryz.underlying35
 have M3:=Tryz.underlying32
 have UR:=Tryz.underlying58
 have kV:=ah.mk sw
 have kW:=ah.mk sx
 clear sw sx
 have lS:=ah.mk sy
 have oD:=ah.mk sA
 clear sy sA
 have HR1:=ah.mk hr1
 have HC1:=ah.mk hc1
 clear hr1 hc1
 have HB:=ah.mk (Below.refl w.heap.size w)
 have HG:=ah.mk hG
 clear hG
 have H:((gQ.f k aI bh bn bT bz bW bX bw).bind fun nV=>(if nV.2=0 then ((gH.f aI).bind fun fT=>(if (nV.1.size:Int) < (fT.size:Int) then (none) else ((dY.f fT l1).bind fun kg=>(if 0≤(fT.size:Int) then (if (fT.size:Int)≤(nV.1.size:Int) then (if kg.size + (nV.1.extract ((fT.size:Int):Int).toNat nV.1.size).size≤9223372036854775807 then (if aI=3 then (aC.j0 k l1 nV.1 fT (kg ++ (nV.1.extract ((fT.size:Int):Int).toNat nV.1.size)) true aI bh bn bT bz bW bX bw) else (aC.j0 k l1 nV.1 fT (kg ++ (nV.1.extract ((fT.size:Int):Int).toNat nV.1.size)) (aI == 4) aI bh bn bT bz bW bX bw)) else (none)) else (none)) else (none))))) else ((bO.f k).bind fun Og=>(some Og))))=some r:=h
 clear h
 replace H:=Option.bind_eq_some_iff.mp H
 obtain ⟨⟨eH,Oh⟩,zb,H⟩:=H
 replace H:(if Oh=0 then ((gH.f aI).bind fun fT=>(if (eH.size:Int) < (fT.size:Int) then (none) else ((dY.f fT l1).bind fun kg=>(if 0≤(fT.size:Int) then (if (fT.size:Int)≤(eH.size:Int) then (if kg.size + (eH.extract ((fT.size:Int):Int).toNat eH.size).size≤9223372036854775807 then (if aI=3 then (aC.j0 k l1 eH fT (kg ++ (eH.extract ((fT.size:Int):Int).toNat eH.size)) true aI bh bn bT bz bW bX bw) else (aC.j0 k l1 eH fT (kg ++ (eH.extract ((fT.size:Int):Int).toNat eH.size)) (aI == 4) aI bh bn bT bz bW bX bw)) else (none)) else (none)) else (none))))) else ((bO.f k).bind fun Og=>(some Og)))=some r:=H
 have A3:=ah.mk zb
 clear zb
 by_cases c4:Oh=0
 ·rw [if_pos c4] at H
  have nP:(Oh == 0)=true:=beq_iff_eq.mpr c4
  have Bn:(Oh != 0)=false:=bne_eq_false_iff_eq.mpr c4
  clear c4
  replace H:=Option.bind_eq_some_iff.mp H
  obtain ⟨fT,Nv,H⟩:=H
  replace H:(if (eH.size:Int) < (fT.size:Int) then (none) else ((dY.f fT l1).bind fun kg=>(if 0≤(fT.size:Int) then (if (fT.size:Int)≤(eH.size:Int) then (if kg.size + (eH.extract ((fT.size:Int):Int).toNat eH.size).size≤9223372036854775807 then (if aI=3 then (aC.j0 k l1 eH fT (kg ++ (eH.extract ((fT.size:Int):Int).toNat eH.size)) true aI bh bn bT bz bW bX bw) else (aC.j0 k l1 eH fT (kg ++ (eH.extract ((fT.size:Int):Int).toNat eH.size)) (aI == 4) aI bh bn bT bz bW bX bw)) else (none)) else (none)) else (none))))=some r:=H
  have A5:=ah.mk Nv
  clear Nv
  by_cases c6:(eH.size:Int) < (fT.size:Int)
  ·rw [if_pos c6] at H
   exact absurd H bf
  ·rw [if_neg c6] at H
   have oW:decide ((eH.size:Int) < (fT.size:Int))=false:=decide_eq_false c6
   have yS:decide (eH.size < fT.size)=false:=decide_eq_false (fun h=>c6 (Int.ofNat_lt.mpr h))
   clear c6
   replace H:=Option.bind_eq_some_iff.mp H
   obtain ⟨kg,GV,H⟩:=H
   replace H:(if 0≤(fT.size:Int) then (if (fT.size:Int)≤(eH.size:Int) then (if kg.size + (eH.extract ((fT.size:Int):Int).toNat eH.size).size≤9223372036854775807 then (if aI=3 then (aC.j0 k l1 eH fT (kg ++ (eH.extract ((fT.size:Int):Int).toNat eH.size)) true aI bh bn bT bz bW bX bw) else (aC.j0 k l1 eH fT (kg ++ (eH.extract ((fT.size:Int):Int).toNat eH.size)) (aI == 4) aI bh bn bT bz bW bX bw)) else (none)) else (none)) else (none))=some r:=H
   have A7:=ah.mk GV
   clear GV
   by_cases c8: 0≤(fT.size:Int)
   ·rw [if_pos c8] at H
    have Dy:=eq_true c8
    have Qe:decide (0≤(fT.size:Int))=true:=decide_eq_true c8
    clear c8
    by_cases c9:(fT.size:Int)≤(eH.size:Int)
    ·rw [if_pos c9] at H
     have IM:=eq_true c9
     have UY:decide ((fT.size:Int)≤(eH.size:Int))=true:=decide_eq_true c9
     clear c9
     by_cases c10:kg.size + (eH.extract ((fT.size:Int):Int).toNat eH.size).size≤9223372036854775807
     ·rw [if_pos c10] at H
      have oX:=eq_true c10
      have yz:decide (kg.size + (eH.extract ((fT.size:Int):Int).toNat eH.size).size≤9223372036854775807)=true:=decide_eq_true c10
      have arB:(9223372036854775807 < kg.size + (eH.size - fT.size))=False:=by {have z9_ :=c10;simp [ByteArray.size_extract] at z9_;exact eq_false aq}
      try have Yi:(9223372036854775807 < kg.size + (eH.extract ((fT.size:Int):Int).toNat eH.size).size)=False:=eq_false (Nat.not_lt.2 c10)
      have ael:=ah.mk H
      clear H
      go_enter Tryz.func9,Tryz.ntmps9
      try go_wp2_with (first|((with_reducible refine cK (N:=2) rfl ?_);refine cu ?hg (N:=2) ?hd (cs:=#[.int .u8 aI,.string bh,.bool bn,.slice dn bT.length dw,.string bz,.string bW,.bool bX,.slice dF bw.length dx]) (t:=35) ?hr ?_;(case hd=>rfl);(case hg=>rfl);(case hr=>first|(go_simp;done)|(go_simp;rfl));intro cG hg IB cM hb;have bI:=ah.mk (az cA hb);have bP:=ah.mk (cM);have cw:=ah.mk ((dW:w.heap.size≤cG));have cW:=ah.mk ((dW:w.heap.size≤cG));clear HB;have HB:=bI;have bG:=bP;have agU:=cw;have I7:=cW;clear bI bP cw cW;clear hb cM hg;have nJ:IB.cell? ⟨cG,0,none⟩=some (.int .u8 aI):=(af bG.out 0).trans rfl;have nK:IB.cell? ⟨cG,1,none⟩=some (.string bh):=(af bG.out 1).trans rfl;have qh:IB.cell? ⟨cG,2,none⟩=some (.bool bn):=(af bG.out 2).trans rfl;have uD:IB.cell? ⟨cG,3,none⟩=some (.slice dn bT.length dw):=(af bG.out 3).trans rfl;have uE:IB.cell? ⟨cG,4,none⟩=some (.string bz):=(af bG.out 4).trans rfl;have FT:IB.cell? ⟨cG,5,none⟩=some (.string bW):=(af bG.out 5).trans rfl;have FU:IB.cell? ⟨cG,6,none⟩=some (.bool bX):=(af bG.out 6).trans rfl;have FV:IB.cell? ⟨cG,7,none⟩=some (.slice dF bw.length dx):=(af bG.out 7).trans rfl;have nL:=aa bG.out 0;have nM:=aa bG.out 1;have qi:=aa bG.out 2;have uF:=aa bG.out 3;have uG:=aa bG.out 4;have FW:=aa bG.out 5;have FX:=aa bG.out 6;have FY:=aa bG.out 7)|((with_reducible refine aT (f:=33) rfl ?_);refine cC (some 18) rfl rfl Tryz.func33 av rfl #[.agg #[.int .u8 aI,.string bh,.bool bn,.slice dn bT.length dw,.string bz,.string bW,.bool bX,.slice dF bw.length dx]] rfl cY ?_;(with_reducible refine (gQ.calls k aI bh bn _ _ bT bz bW bX _ _ bw eH Oh _ ?bg ?bY ?eI ?gP ?iV A3.out).mono ?_);(case bg=>repeat (first|exact (Kd.dI kV.out HB.out)|(with_reducible refine Kd.dZ ?_ _)|(with_reducible refine Kd.eo ?_ _)|(with_reducible refine Kd.eZ ?_)));(case bY=>exact kW.out);(case eI=>repeat (first|exact (Kd.dI lS.out HB.out)|(with_reducible refine Kd.dZ ?_ _)|(with_reducible refine Kd.eo ?_ _)|(with_reducible refine Kd.eZ ?_)));(case gP=>exact oD.out);(case iV=>exact aW.below HG.out gu);rintro e CI ⟨rfl,hb⟩;refine ⟨_,rfl,?_⟩;have bI:=ah.mk (aR (g:=cG) (o:= .cells #[.int .u8 aI,.string bh,.bool bn,.slice dn bT.length dw,.string bz,.string bW,.bool bX,.slice dF bw.length dx] 35 (0,0)) kH hb);have bP:=ah.mk (az gu hb);clear bG;clear HB;have bG:=bI;have HB:=bP;clear bI bP;(try clear hb);(try clear hb2);(try clear hk);(try clear hi);have qj:CI.cell? ⟨cG,0,none⟩=some (.int .u8 aI):=(af bG.out 0).trans rfl;have qm:CI.cell? ⟨cG,1,none⟩=some (.string bh):=(af bG.out 1).trans rfl;have qo:CI.cell? ⟨cG,2,none⟩=some (.bool bn):=(af bG.out 2).trans rfl;have qp:CI.cell? ⟨cG,3,none⟩=some (.slice dn bT.length dw):=(af bG.out 3).trans rfl;have qq:CI.cell? ⟨cG,4,none⟩=some (.string bz):=(af bG.out 4).trans rfl;have uW:CI.cell? ⟨cG,5,none⟩=some (.string bW):=(af bG.out 5).trans rfl;have uX:CI.cell? ⟨cG,6,none⟩=some (.bool bX):=(af bG.out 6).trans rfl;have uY:CI.cell? ⟨cG,7,none⟩=some (.slice dF bw.length dx):=(af bG.out 7).trans rfl;have qu:=aa bG.out 0;have qw:=aa bG.out 1;have qx:=aa bG.out 2;have qy:=aa bG.out 3;have qz:=aa bG.out 4;have uZ:=aa bG.out 5;have u5:=aa bG.out 6;have u7:=aa bG.out 7)|((with_reducible refine aT (f:=38) rfl ?_);refine cC (some 26) rfl rfl Tryz.func38 av rfl #[.int .u8 aI] rfl cY ?_;(with_reducible refine (gH.calls aI fT _ ?bg A5.out).mono ?_);(case bg=>exact aW.below HG.out gu);rintro e Zc ⟨rfl,hb⟩;refine ⟨_,rfl,?_⟩;have bI:=ah.mk (aR (g:=cG) (o:= .cells #[.int .u8 aI,.string bh,.bool bn,.slice dn bT.length dw,.string bz,.string bW,.bool bX,.slice dF bw.length dx] 35 (0,0)) kH hb);have bP:=ah.mk (az gu hb);clear bG;clear HB;have bG:=bI;have HB:=bP;clear bI bP;(try clear hb);(try clear hb2);(try clear hk);(try clear hi)))
      have bI:=ah.mk (aV bG.out)
      have bP:=ah.mk (bq HB.out)
      clear bG
      clear HB
      have bG:=bI
      have HB:=bP
      clear bI bP
      refine Bf (n:=9) (S:=fun w'=>True) (ds:=[]) #[false,false,false,false,false,false,false,false,false] av (by rfl) (by rfl) trivial (fun hHeld=>?_);refine tO aC.apk aC.agT (fun lB Ph=>?_)
      generalize Zc.drew=w17 at bG HB hHeld ⊢
      refine eG (i:=0) (N:=some 32) (v:=?_) (a':=?_) #[true,false,false,false,false,false,false,false,false] rfl rfl (fA lB.out av) (fun _ _ _ h=>h) (Or.inl ⟨by rfl,?_⟩) ?_ ?_
      rotate_left
      ·intro w'
       go_simp
       with_reducible rfl
      rotate_left
      ·simp only [Act.put,List.setIfInBounds_toArray,List.set_cons_zero,List.set_cons_succ,cS,cV]
       rfl
      refine eG (i:=1) (N:=some 33) (v:=?_) (a':=?_) #[true,true,false,false,false,false,false,false,false] rfl rfl (fA lB.out av) (fun _ _ _ h=>h) (Or.inl ⟨by rfl,?_⟩) ?_ ?_
      rotate_left
      ·intro w'
       go_simp
       with_reducible rfl
      rotate_left
      ·simp only [Act.put,List.setIfInBounds_toArray,List.set_cons_zero,List.set_cons_succ,cS,cV]
       rfl
      refine eG (i:=3) (N:=some 35) (v:=?_) (a':=?_) #[true,true,false,true,false,false,false,false,false] rfl rfl (fA lB.out av) (fun _ _ _ h=>h) (Or.inl ⟨by rfl,?_⟩) ?_ ?_
      rotate_left
      ·intro w'
       go_simp
       with_reducible rfl
      rotate_left
      ·simp only [Act.put,List.setIfInBounds_toArray,List.set_cons_zero,List.set_cons_succ,cS,cV]
       rfl
      refine eG (i:=4) (N:=some 36) (v:=?_) (a':=?_) #[true,true,false,true,true,false,false,false,false] rfl rfl (fA lB.out av) (fun _ _ _ h=>h) (Or.inl ⟨by rfl,?_⟩) ?_ ?_
      rotate_left
      ·intro w'
       go_simp
       with_reducible rfl
      rotate_left
      ·simp only [Act.put,List.setIfInBounds_toArray,List.set_cons_zero,List.set_cons_succ,cS,cV]
       rfl
      refine eG (i:=5) (N:=some 37) (v:=?_) (a':=?_) #[true,true,false,true,true,true,false,false,false] rfl rfl (fA lB.out av) (fun _ _ _ h=>h) (Or.inl ⟨by rfl,?_⟩) ?_ ?_
      rotate_left
      ·intro w'
       go_simp
       with_reducible rfl
      rotate_left
      ·simp only [Act.put,List.setIfInBounds_toArray,List.set_cons_zero,List.set_cons_succ,cS,cV]
       rfl
      refine eG (i:=6) (N:=some 38) (v:=?_) (a':=?_) #[true,true,false,true,true,true,true,false,false] rfl rfl (fA lB.out av) (fun _ _ _ h=>h) (Or.inl ⟨by rfl,?_⟩) ?_ ?_
      rotate_left
      ·intro w'
       go_simp
       with_reducible rfl
      rotate_left
      ·simp only [Act.put,List.setIfInBounds_toArray,List.set_cons_zero,List.set_cons_succ,cS,cV]
       rfl
      refine II (i:=2) (N:=some 34) #[true,true,true,true,true,true,true,false,false] rfl rfl (wV lB.out av) bL (fun K hK=>?_)
      refine BV Tryz.func39 av rfl #[.string fT,.slice A1 l1.length c1] (by rfl) rfl rfl cY ?_
      with_reducible refine (dY.calls fT _ _ l1 kg _ ?bg ?bY A7.out).mono ?_
      (case bg=>repeat (first|exact (Kd.dI HR1.out HB.out)|(with_reducible refine Kd.dZ ?_ _)|(with_reducible refine Kd.eo ?_ _)|(with_reducible refine Kd.eZ ?_)))
      (case bY=>exact HC1.out)
      rintro e Nz ⟨rfl,hb⟩
      refine ⟨_,rfl,?_⟩
      have bI:=ah.mk (aR (g:=cG) (o:= .cells #[.int .u8 aI,.string bh,.bool bn,.slice dn bT.length dw,.string bz,.string bW,.bool bX,.slice dF bw.length dx] 35 (0,0)) kH hb)
      have bP:=ah.mk (az gu hb)
      clear bG
      clear HB
      have bG:=bI
      have HB:=bP
      clear bI bP
      (try clear hb)
      (try clear hb2)
      (try clear hk)
      (try clear hi)
      refine hK.out _ _ trivial (fun hHeld=>?_)
      clear hK K
      refine BU (a':=?_) ?_ ?_
      rotate_left
      ·show Act.put _ (some 34) _=_
       simp only [Act.put,List.setIfInBounds_toArray,List.set_cons_zero,List.set_cons_succ,cS,cV]
       rfl
      refine eG (i:=7) (N:=some 39) (v:=?_) (a':=?_) #[true,true,true,true,true,true,true,true,false] rfl rfl (fA lB.out av) (fun _ _ _ h=>h) (Or.inl ⟨by rfl,?_⟩) ?_ ?_
      rotate_left
      ·intro w'
       go_simp
       with_reducible rfl
      rotate_left
      ·simp only [Act.put,List.setIfInBounds_toArray,List.set_cons_zero,List.set_cons_succ,cS,cV]
       rfl
      refine eG (i:=8) (N:=some 8) (v:=?_) (a':=?_) #[true,true,true,true,true,true,true,true,true] rfl rfl (fA lB.out av) (fun _ _ _ h=>h) (Or.inl ⟨by rfl,?_⟩) ?_ ?_
      rotate_left
      ·intro w'
       go_simp
       with_reducible rfl
      rotate_left
      ·simp only [Act.put,List.setIfInBounds_toArray,List.set_cons_zero,List.set_cons_succ,cS,cV]
       rfl
      refine Gz (zN lB.out av) ?_
      go_upto_region 8 with (fail)
      go_cut [47] (fun v47 wc=>∃ (kq:Nat) (Mx:Bool),v47= .bool Mx∧ah (aC.j0 kq l1 eH fT (kg ++ (eH.extract ((fT.size:Int):Int).toNat eH.size)) Mx aI bh bn bT bz bW bX bw=some r)∧ah (kq≤k)∧ah (wc.heap[cG]? =some (.cells #[.int .u8 aI,.string bh,.bool bn,(.slice dn bT.length dw),.string bz,.string bW,.bool bX,(.slice dF bw.length dx)] 35 (0,0)))∧ah (Below w.heap.size w wc))
      case first=>
       have H:=ael.out
       clear ael
       by_cases c19:aI=3
       ·rw [if_pos c19] at H
        have wF:(aI == 3)=true:=beq_iff_eq.mpr c19
        have El:(aI != 3)=false:=bne_eq_false_iff_eq.mpr c19
        clear c19
        (first|rw [wF]|(simp only [cS,cV];rw [wF])|skip)
        have H':=ah.mk H
        clear H
        have vJ:Nz.cell? ⟨cG,0,none⟩=some (.int .u8 aI):=(af bG.out 0).trans rfl
        have vK:Nz.cell? ⟨cG,1,none⟩=some (.string bh):=(af bG.out 1).trans rfl
        have CW:Nz.cell? ⟨cG,2,none⟩=some (.bool bn):=(af bG.out 2).trans rfl
        have F5:Nz.cell? ⟨cG,3,none⟩=some (.slice dn bT.length dw):=(af bG.out 3).trans rfl
        have F6:Nz.cell? ⟨cG,4,none⟩=some (.string bz):=(af bG.out 4).trans rfl
        have F7:Nz.cell? ⟨cG,5,none⟩=some (.string bW):=(af bG.out 5).trans rfl
        have F8:Nz.cell? ⟨cG,6,none⟩=some (.bool bX):=(af bG.out 6).trans rfl
        have F9:Nz.cell? ⟨cG,7,none⟩=some (.slice dF bw.length dx):=(af bG.out 7).trans rfl
        have vL:=aa bG.out 0
        have vM:=aa bG.out 1
        have CX:=aa bG.out 2
        have Ga:=aa bG.out 3
        have Gb:=aa bG.out 4
        have Gc:=aa bG.out 5
        have Gd:=aa bG.out 6
        have Ge:=aa bG.out 7
        go_wp2
        go_meet
        case rel=>exact ⟨_,(true),dL,H',⟨nB⟩,⟨kH⟩,⟨gu⟩⟩
       ·rw [if_neg c19] at H
        have wF:(aI == 3)=false:=beq_eq_false_iff_ne.mpr c19
        have El:(aI != 3)=true:=bne_iff_ne.mpr c19
        (first|rw [wF]|(simp only [cS,cV];rw [wF])|skip)
        have H':=ah.mk H
        clear H
        have rL:Nz.cell? ⟨cG,0,none⟩=some (.int .u8 aI):=(af bG.out 0).trans rfl
        have rM:Nz.cell? ⟨cG,1,none⟩=some (.string bh):=(af bG.out 1).trans rfl
        have rN:Nz.cell? ⟨cG,2,none⟩=some (.bool bn):=(af bG.out 2).trans rfl
        have vv:Nz.cell? ⟨cG,3,none⟩=some (.slice dn bT.length dw):=(af bG.out 3).trans rfl
        have vw:Nz.cell? ⟨cG,4,none⟩=some (.string bz):=(af bG.out 4).trans rfl
        have xB:Nz.cell? ⟨cG,5,none⟩=some (.string bW):=(af bG.out 5).trans rfl
        have xC:Nz.cell? ⟨cG,6,none⟩=some (.bool bX):=(af bG.out 6).trans rfl
        have xD:Nz.cell? ⟨cG,7,none⟩=some (.slice dF bw.length dx):=(af bG.out 7).trans rfl
        have rO:=aa bG.out 0
        have rP:=aa bG.out 1
        have rQ:=aa bG.out 2
        have vA:=aa bG.out 3
        have vB:=aa bG.out 4
        have xE:=aa bG.out 5
        have xG:=aa bG.out 6
        have xH:=aa bG.out 7
        go_wp2
        go_meet
        case rel=>exact ⟨_,((aI == 4)),dL,H',⟨nB⟩,⟨kH⟩,⟨gu⟩⟩
      case rest=>
       clear ael
       try clear c1
       try clear p2
       try clear c3
       try clear c4
       try clear nP
       try clear Bn
       try clear c6
       try clear oW
       try clear yS
       try clear c8
       try clear Dy
       try clear Qe
       try clear c9
       try clear IM
       try clear UY
       try clear c10
       try clear oX
       try clear yz
       try clear Yi
       try clear c19
       try clear wF
       try clear El
       try clear nJ
       try clear nK
       try clear qh
       try clear uD
       try clear uE
       try clear FT
       try clear FU
       try clear FV
       try clear qj
       try clear qm
       try clear qo
       try clear qp
       try clear qq
       try clear uW
       try clear uX
       try clear uY
       try clear vJ
       try clear vK
       try clear CW
       try clear F5
       try clear F6
       try clear F7
       try clear F8
       try clear F9
       try clear rL
       try clear rM
       try clear rN
       try clear vv
       try clear vw
       try clear xB
       try clear xC
       try clear xD
       try clear nL
       try clear nM
       try clear qi
       try clear uF
       try clear uG
       try clear FW
       try clear FX
       try clear FY
       try clear qu
       try clear qw
       try clear qx
       try clear qy
       try clear qz
       try clear uZ
       try clear u5
       try clear u7
       try clear vL
       try clear vM
       try clear CX
       try clear Ga
       try clear Gb
       try clear Gc
       try clear Gd
       try clear Ge
       try clear rO
       try clear rP
       try clear rQ
       try clear vA
       try clear vB
       try clear xE
       try clear xG
       try clear xH
       obtain ⟨kq,Mx,rfl,HA,Vi,bG,HB⟩:=hcut
       cases kq with
       |zero=>exact absurd HA.out (by simp [aC.j0])
       |succ zm=>
        have H:=HA.out
        clear HA
        simp only [aC.j0] at H
        by_cases Dh:Mx=true
        ·subst Dh
         have H1:(if aI=3 then (aC.j1 zm l1 eH fT (⟨#[32,70,82,79,77,58]⟩:ByteArray) aI bh bn bT bz bW bX bw) else (aC.j1 zm l1 eH fT (⟨#[32,84,79,58]⟩:ByteArray) aI bh bn bT bz bW bX bw))=some r:=by rw [if_pos rfl] at H;exact H
         clear H
         have H:=H1
         clear H1
         have aem:=ah.mk H
         clear H
         have tB:wc.cell? ⟨cG,0,none⟩=some (.int .u8 aI):=(af bG.out 0).trans rfl
         have tC:wc.cell? ⟨cG,1,none⟩=some (.string bh):=(af bG.out 1).trans rfl
         have Aa:wc.cell? ⟨cG,2,none⟩=some (.bool bn):=(af bG.out 2).trans rfl
         have Ac:wc.cell? ⟨cG,3,none⟩=some (.slice dn bT.length dw):=(af bG.out 3).trans rfl
         have Ad:wc.cell? ⟨cG,4,none⟩=some (.string bz):=(af bG.out 4).trans rfl
         have Ae:wc.cell? ⟨cG,5,none⟩=some (.string bW):=(af bG.out 5).trans rfl
         have Af:wc.cell? ⟨cG,6,none⟩=some (.bool bX):=(af bG.out 6).trans rfl
         have Ag:wc.cell? ⟨cG,7,none⟩=some (.slice dF bw.length dx):=(af bG.out 7).trans rfl
         have tD:=aa bG.out 0
         have tE:=aa bG.out 1
         have Ah:=aa bG.out 2
         have Ai:=aa bG.out 3
         have Aj:=aa bG.out 4
         have Ak:=aa bG.out 5
         have Al:=aa bG.out 6
         have Am:=aa bG.out 7
         go_upto_if 50 with (fail)
         go_cut [9] (fun v9 wc=>∃ (kq:Nat) (Ba:ByteArray),v9= .string Ba∧ah (aC.j1 kq l1 eH fT Ba aI bh bn bT bz bW bX bw=some r)∧ah (kq≤zm)∧ah (wc.heap[cG]? =some (.cells #[.int .u8 aI,.string bh,.bool bn,(.slice dn bT.length dw),.string bz,.string bW,.bool bX,(.slice dF bw.length dx)] 35 (0,0)))∧ah (Below w.heap.size w wc))
         case first=>
          have H:=aem.out
          clear aem
          by_cases G5:aI=3
          ·rw [if_pos G5] at H
           have zh:(aI == 3)=true:=beq_iff_eq.mpr G5
           have Ub:(aI != 3)=false:=bne_eq_false_iff_eq.mpr G5
           clear G5
           (first|rw [zh]|(simp only [cS,cV];rw [zh])|skip)
           have H':=ah.mk H
           clear H
           go_wp2
           go_meet
           case rel=>exact ⟨_,((⟨#[32,70,82,79,77,58]⟩:ByteArray)),dL,H',⟨by have:=Vi.out;first|omega|exact Nat.le_refl _⟩,⟨kH⟩,⟨gu⟩⟩
          ·rw [if_neg G5] at H
           have zh:(aI == 3)=false:=beq_eq_false_iff_ne.mpr G5
           have Ub:(aI != 3)=true:=bne_iff_ne.mpr G5
           (first|rw [zh]|(simp only [cS,cV];rw [zh])|skip)
           have H':=ah.mk H
           clear H
           go_wp2
           go_meet
           case rel=>exact ⟨_,((⟨#[32,84,79,58]⟩:ByteArray)),dL,H',⟨by have:=Vi.out;first|omega|exact Nat.le_refl _⟩,⟨kH⟩,⟨gu⟩⟩
         case rest=>
          clear aem
          try clear c1
          try clear c2
          try clear p2
          try clear c3
          try clear c4
          try clear nP
          try clear Bn
          try clear c6
          try clear oW
          try clear yS
          try clear c8
          try clear Dy
          try clear Qe
          try clear c9
          try clear IM
          try clear UY
          try clear c10
          try clear oX
          try clear yz
          try clear Yi
          try clear c19
          try clear wF
          try clear El
          try clear Dh
          try clear G5
          try clear zh
          try clear Ub
          try clear nJ
          try clear nK
          try clear qh
          try clear uD
          try clear uE
          try clear FT
          try clear FU
          try clear FV
          try clear qj
          try clear qm
          try clear qo
          try clear qp
          try clear qq
          try clear uW
          try clear uX
          try clear uY
          try clear vJ
          try clear vK
          try clear CW
          try clear F5
          try clear F6
          try clear F7
          try clear F8
          try clear F9
          try clear rL
          try clear rM
          try clear rN
          try clear vv
          try clear vw
          try clear xB
          try clear xC
          try clear xD
          try clear tB
          try clear tC
          try clear Aa
          try clear Ac
          try clear Ad
          try clear Ae
          try clear Af
          try clear Ag
          try clear nL
          try clear nM
          try clear qi
          try clear uF
          try clear uG
          try clear FW
          try clear FX
          try clear FY
          try clear qu
          try clear qw
          try clear qx
          try clear qy
          try clear qz
          try clear uZ
          try clear u5
          try clear u7
          try clear vL
          try clear vM
          try clear CX
          try clear Ga
          try clear Gb
          try clear Gc
          try clear Gd
          try clear Ge
          try clear rO
          try clear rP
          try clear rQ
          try clear vA
          try clear vB
          try clear xE
          try clear xG
          try clear xH
          try clear tD
          try clear tE
          try clear Ah
          try clear Ai
          try clear Aj
          try clear Ak
          try clear Al
          try clear Am
          try clear p2
          obtain ⟨kq,Ba,rfl,HA,abk,bG,HB⟩:=hcut
          cases kq with
          |zero=>exact absurd HA.out (by simp [aC.j1])
          |succ Yj=>
           have H:=HA.out
           clear HA
           simp only [aC.j1] at H
           replace H:=Option.bind_eq_some_iff.mp H
           obtain ⟨⟨My,Yk⟩,XI,H⟩:=H
           replace H:(if Yk=0 then (if fT.size + Ba.size≤9223372036854775807 then ((dY.f (fT ++ Ba) l1).bind fun DC=>(if DC.size + My.size≤9223372036854775807 then (aC.l0 Yj l1 eH (DC ++ My) bw (bw.length:Int) 0 aI bh bn bT bz bW bX bw) else (none))) else (none)) else (none))=some r:=H
           have A26:=ah.mk XI
           clear XI
           by_cases IJ:Yk=0
           ·rw [if_pos IJ] at H
            have TD:(Yk == 0)=true:=beq_iff_eq.mpr IJ
            have TE:(Yk != 0)=false:=bne_eq_false_iff_eq.mpr IJ
            clear IJ
            by_cases c28:fT.size + Ba.size≤9223372036854775807
            ·rw [if_pos c28] at H
             have Ej:=eq_true c28
             have XJ:decide (fT.size + Ba.size≤9223372036854775807)=true:=decide_eq_true c28
             try have agV:(9223372036854775807 < fT.size + Ba.size)=False:=eq_false (Nat.not_lt.2 c28)
             replace H:=Option.bind_eq_some_iff.mp H
             obtain ⟨DC,agW,H⟩:=H
             replace H:(if DC.size + My.size≤9223372036854775807 then (aC.l0 Yj l1 eH (DC ++ My) bw (bw.length:Int) 0 aI bh bn bT bz bW bX bw) else (none))=some r:=H
             have A29:=ah.mk agW
             clear agW
             by_cases IA:DC.size + My.size≤9223372036854775807
             ·rw [if_pos IA] at H
              have WU:=eq_true IA
              have acp:decide (DC.size + My.size≤9223372036854775807)=true:=decide_eq_true IA
              try have X5:(9223372036854775807 < DC.size + My.size)=False:=eq_false (Nat.not_lt.2 IA)
              have H':=ah.mk H
              clear H
              have vN:wc.cell? ⟨cG,0,none⟩=some (.int .u8 aI):=(af bG.out 0).trans rfl
              have vO:wc.cell? ⟨cG,1,none⟩=some (.string bh):=(af bG.out 1).trans rfl
              have xP:wc.cell? ⟨cG,2,none⟩=some (.bool bn):=(af bG.out 2).trans rfl
              have Lz:wc.cell? ⟨cG,3,none⟩=some (.slice dn bT.length dw):=(af bG.out 3).trans rfl
              have LA:wc.cell? ⟨cG,4,none⟩=some (.string bz):=(af bG.out 4).trans rfl
              have Ui:wc.cell? ⟨cG,5,none⟩=some (.string bW):=(af bG.out 5).trans rfl
              have Uj:wc.cell? ⟨cG,6,none⟩=some (.bool bX):=(af bG.out 6).trans rfl
              have Uk:wc.cell? ⟨cG,7,none⟩=some (.slice dF bw.length dx):=(af bG.out 7).trans rfl
              have vP:=aa bG.out 0
              have vQ:=aa bG.out 1
              have xQ:=aa bG.out 2
              have LB:=aa bG.out 3
              have LC:=aa bG.out 4
              have Ul:=aa bG.out 5
              have Um:=aa bG.out 6
              have Un:=aa bG.out 7
              go_wp2_with (first|((with_reducible refine aT (f:=21) rfl ?_);refine cC (some 54) rfl rfl Tryz.func21 av rfl #[.agg #[.bool bn,.slice dn bT.length dw,.string bz,.string bW,.bool bX]] rfl cY ?_;(with_reducible refine (kf.calls Yj bn _ _ bT bz bW bX My Yk _ ?bg ?bY ?eI A26.out).mono ?_);(case bg=>repeat (first|exact (Kd.dI kV.out HB.out)|(with_reducible refine Kd.dZ ?_ _)|(with_reducible refine Kd.eo ?_ _)|(with_reducible refine Kd.eZ ?_)));(case bY=>exact kW.out);(case eI=>exact aW.below HG.out gu);rintro e Ek ⟨rfl,hb⟩;refine ⟨_,rfl,?_⟩;have bI:=ah.mk (aR (g:=cG) (o:= .cells #[.int .u8 aI,.string bh,.bool bn,.slice dn bT.length dw,.string bz,.string bW,.bool bX,.slice dF bw.length dx] 35 (0,0)) kH hb);have bP:=ah.mk (az gu hb);clear bG;clear HB;have bG:=bI;have HB:=bP;clear bI bP;(try clear hb);(try clear hb2);(try clear hk);(try clear hi))|((with_reducible refine aT (f:=39) rfl ?_);refine cC (some 63) rfl rfl Tryz.func39 av rfl #[.string (fT ++ Ba),.slice A1 l1.length c1] rfl cY ?_;(with_reducible refine (dY.calls (fT ++ Ba) _ _ l1 DC _ ?bg ?bY A29.out).mono ?_);(case bg=>repeat (first|exact (Kd.dI HR1.out HB.out)|(with_reducible refine Kd.dZ ?_ _)|(with_reducible refine Kd.eo ?_ _)|(with_reducible refine Kd.eZ ?_)));(case bY=>exact HC1.out);rintro e FJ ⟨rfl,hb⟩;refine ⟨_,rfl,?_⟩;have bI:=ah.mk (aR (g:=cG) (o:= .cells #[.int .u8 aI,.string bh,.bool bn,.slice dn bT.length dw,.string bz,.string bW,.bool bX,.slice dF bw.length dx] 35 (0,0)) kH hb);have bP:=ah.mk (az gu hb);clear bG;clear HB;have bG:=bI;have HB:=bP;clear bI bP;(try clear hb);(try clear hb2);(try clear hk);(try clear hi);have CN:FJ.cell? ⟨cG,0,none⟩=some (.int .u8 aI):=(af bG.out 0).trans rfl;have CO:FJ.cell? ⟨cG,1,none⟩=some (.string bh):=(af bG.out 1).trans rfl;have CP:FJ.cell? ⟨cG,2,none⟩=some (.bool bn):=(af bG.out 2).trans rfl;have Ml:FJ.cell? ⟨cG,3,none⟩=some (.slice dn bT.length dw):=(af bG.out 3).trans rfl;have Mm:FJ.cell? ⟨cG,4,none⟩=some (.string bz):=(af bG.out 4).trans rfl;have Uc:FJ.cell? ⟨cG,5,none⟩=some (.string bW):=(af bG.out 5).trans rfl;have Ud:FJ.cell? ⟨cG,6,none⟩=some (.bool bX):=(af bG.out 6).trans rfl;have Ue:FJ.cell? ⟨cG,7,none⟩=some (.slice dF bw.length dx):=(af bG.out 7).trans rfl;have CQ:=aa bG.out 0;have CR:=aa bG.out 1;have CS:=aa bG.out 2;have Mn:=aa bG.out 3;have Mo:=aa bG.out 4;have Uf:=aa bG.out 5;have Ug:=aa bG.out 6;have Uh:=aa bG.out 7))
              go_loopg [8,69] Yj (fun kq v8 v69 w'=>∃ (ny:ByteArray) (gj:Int),v8= .string ny∧v69= .int .i64 gj∧ah (aC.l0 kq l1 eH ny bw (bw.length:Int) gj aI bh bn bT bz bW bX bw=some r)∧ah (kq≤Yj)∧ah (w'.heap[cG]? =some (.cells #[.int .u8 aI,.string bh,.bool bn,(.slice dn bT.length dw),.string bz,.string bW,.bool bX,(.slice dF bw.length dx)] 35 (0,0)))∧ah (Below w.heap.size w w'))
              case atStart=>exact ⟨(DC ++ My),(0),dL,dL,H',⟨Nat.le_refl _⟩,⟨kH⟩,⟨gu⟩⟩
              case round=>
               clear H'
               try clear c1
               try clear c2
               try clear p2
               try clear c3
               try clear c4
               try clear nP
               try clear Bn
               try clear c6
               try clear oW
               try clear yS
               try clear c8
               try clear Dy
               try clear Qe
               try clear c9
               try clear IM
               try clear UY
               try clear c10
               try clear oX
               try clear yz
               try clear Yi
               try clear c19
               try clear wF
               try clear El
               try clear c21
               try clear Dh
               try clear G5
               try clear zh
               try clear Ub
               try clear IJ
               try clear TD
               try clear TE
               try clear c28
               try clear Ej
               try clear XJ
               try clear agV
               try clear IA
               try clear WU
               try clear acp
               try clear X5
               try clear Jh
               try clear nJ
               try clear nK
               try clear qh
               try clear uD
               try clear uE
               try clear FT
               try clear FU
               try clear FV
               try clear qj
               try clear qm
               try clear qo
               try clear qp
               try clear qq
               try clear uW
               try clear uX
               try clear uY
               try clear vJ
               try clear vK
               try clear CW
               try clear F5
               try clear F6
               try clear F7
               try clear F8
               try clear F9
               try clear rL
               try clear rM
               try clear rN
               try clear vv
               try clear vw
               try clear xB
               try clear xC
               try clear xD
               try clear tB
               try clear tC
               try clear Aa
               try clear Ac
               try clear Ad
               try clear Ae
               try clear Af
               try clear Ag
               try clear vN
               try clear vO
               try clear xP
               try clear Lz
               try clear LA
               try clear Ui
               try clear Uj
               try clear Uk
               try clear CN
               try clear CO
               try clear CP
               try clear Ml
               try clear Mm
               try clear Uc
               try clear Ud
               try clear Ue
               try clear nL
               try clear nM
               try clear qi
               try clear uF
               try clear uG
               try clear FW
               try clear FX
               try clear FY
               try clear qu
               try clear qw
               try clear qx
               try clear qy
               try clear qz
               try clear uZ
               try clear u5
               try clear u7
               try clear vL
               try clear vM
               try clear CX
               try clear Ga
               try clear Gb
               try clear Gc
               try clear Gd
               try clear Ge
               try clear rO
               try clear rP
               try clear rQ
               try clear vA
               try clear vB
               try clear xE
               try clear xG
               try clear xH
               try clear tD
               try clear tE
               try clear Ah
               try clear Ai
               try clear Aj
               try clear Ak
               try clear Al
               try clear Am
               try clear vP
               try clear vQ
               try clear xQ
               try clear LB
               try clear LC
               try clear Ul
               try clear Um
               try clear Un
               try clear CQ
               try clear CR
               try clear CS
               try clear Mn
               try clear Mo
               try clear Uf
               try clear Ug
               try clear Uh
               try clear p2
               obtain ⟨ny,gj,rfl,rfl,HA,HK3,bG,HB⟩:=hrel
               cases gk with
               |zero=>exact absurd HA.out (by simp [aC.l0])
               |succ k3=>
                have H:=HA.out
                clear HA
                simp only [aC.l0] at H
                by_cases VS:gj < (bw.length:Int)
                ·rw [if_pos VS] at H
                 have ab1:decide (gj < (bw.length:Int))=true:=decide_eq_true VS
                 clear VS
                 by_cases Y8: 0≤gj
                 ·rw [if_pos Y8] at H
                  have afS:decide (0≤gj)=true:=decide_eq_true Y8
                  clear Y8
                  by_cases c37:gj < (bw.length:Int)
                  ·rw [if_pos c37] at H
                   have ab2:decide (gj < (bw.length:Int))=true:=decide_eq_true c37
                   clear c37
                   by_cases MI: 1 + ((cv bw gj).f0).size≤9223372036854775807
                   ·rw [if_pos MI] at H
                    have XK:=eq_true MI
                    have agM:decide (1 + ((cv bw gj).f0).size≤9223372036854775807)=true:=decide_eq_true MI
                    try have acy:(9223372036854775807 < 1 + ((cv bw gj).f0).size)=False:=eq_false (Nat.not_lt.2 MI)
                    replace H:=Option.bind_eq_some_iff.mp H
                    obtain ⟨sS,agX,H⟩:=H
                    replace H:(if ny.size + sS.size≤9223372036854775807 then (if (cv bw gj).f2=true then (if 1 + ((cv bw gj).f1).size≤9223372036854775807 then (if (ny ++ sS).size + ((⟨#[61]⟩:ByteArray) ++ ((cv bw gj).f1)).size≤9223372036854775807 then (aC.l0 k3 l1 eH ((ny ++ sS) ++ ((⟨#[61]⟩:ByteArray) ++ ((cv bw gj).f1))) bw (bw.length:Int) (wrap64 (gj + 1)) aI bh bn bT bz bW bX bw) else (none)) else (none)) else (aC.l0 k3 l1 eH (ny ++ sS) bw (bw.length:Int) (wrap64 (gj + 1)) aI bh bn bT bz bW bX bw)) else (none))=some r:=H
                    have A39:=ah.mk agX
                    clear agX
                    by_cases c40:ny.size + sS.size≤9223372036854775807
                    ·rw [if_pos c40] at H
                     have agc:=eq_true c40
                     have arD:decide (ny.size + sS.size≤9223372036854775807)=true:=decide_eq_true c40
                     try have arE:(9223372036854775807 < ny.size + sS.size)=False:=eq_false (Nat.not_lt.2 c40)
                     obtain ⟨agY,Yl⟩:∃ b_:Bool,b_=((cv bw gj).f2):=⟨_,rfl⟩
                     replace H:(if agY=true then (if 1 + ((cv bw gj).f1).size≤9223372036854775807 then (if (ny ++ sS).size + ((⟨#[61]⟩:ByteArray) ++ ((cv bw gj).f1)).size≤9223372036854775807 then (aC.l0 k3 l1 eH ((ny ++ sS) ++ ((⟨#[61]⟩:ByteArray) ++ ((cv bw gj).f1))) bw (bw.length:Int) (wrap64 (gj + 1)) aI bh bn bT bz bW bX bw) else (none)) else (none)) else (aC.l0 k3 l1 eH (ny ++ sS) bw (bw.length:Int) (wrap64 (gj + 1)) aI bh bn bT bz bW bX bw))=some r:=by rw [← Yl] at H;exact H
                     have acB:=ah.mk Yl
                     clear Yl
                     by_cases XL:agY=true
                     ·subst XL
                      have H1:(if 1 + ((cv bw gj).f1).size≤9223372036854775807 then (if (ny ++ sS).size + ((⟨#[61]⟩:ByteArray) ++ ((cv bw gj).f1)).size≤9223372036854775807 then (aC.l0 k3 l1 eH ((ny ++ sS) ++ ((⟨#[61]⟩:ByteArray) ++ ((cv bw gj).f1))) bw (bw.length:Int) (wrap64 (gj + 1)) aI bh bn bT bz bW bX bw) else (none)) else (none))=some r:=by rw [if_pos rfl] at H;exact H
                      clear H
                      have H:=H1
                      clear H1
                      by_cases c43: 1 + ((cv bw gj).f1).size≤9223372036854775807
                      ·rw [if_pos c43] at H
                       have arF:=eq_true c43
                       have arG:decide (1 + ((cv bw gj).f1).size≤9223372036854775807)=true:=decide_eq_true c43
                       try have arH:(9223372036854775807 < 1 + ((cv bw gj).f1).size)=False:=eq_false (Nat.not_lt.2 c43)
                       by_cases VV:(ny ++ sS).size + ((⟨#[61]⟩:ByteArray) ++ ((cv bw gj).f1)).size≤9223372036854775807
                       ·rw [if_pos VV] at H
                        have acd:=eq_true VV
                        have arI:decide ((ny ++ sS).size + ((⟨#[61]⟩:ByteArray) ++ ((cv bw gj).f1)).size≤9223372036854775807)=true:=decide_eq_true VV
                        try have ag0:(9223372036854775807 < (ny ++ sS).size + ((⟨#[61]⟩:ByteArray) ++ ((cv bw gj).f1)).size)=False:=eq_false (Nat.not_lt.2 VV)
                        try (have acC:=ag0;simp only [ByteArray.size_append] at acC)
                        try have arJ:(9223372036854775807 < (ny.size + sS.size) + (1 + ((cv bw gj).f1).size))=False:=acC
                        have H':=ah.mk H
                        clear H
                        have QE: 0≤(gj:Int):=of_decide_eq_true cO
                        have QF:gj < (bw.length:Int):=of_decide_eq_true cO
                        obtain ⟨Gq,aen,yc,yf,tJ⟩:=vY lS.out gj QE QF
                        (try rw [← acB.out] at tJ)
                        cases aen
                        replace yc:=(HB.out.cell (World.block_lt_of_cell? w _ yc)).trans yc
                        replace yf:=(HB.out.cell (World.block_lt_of_cell? w _ yf)).trans yf
                        replace tJ:=(HB.out.cell (World.block_lt_of_cell? w _ tJ)).trans tJ
                        replace QE:=eq_true QE
                        replace QF:=eq_true QF
                        go_wp2_with (first|((with_reducible refine cK (N:=13) rfl ?_);refine cu ?hg (N:=13) ?hd (cs:=#[.string (⟨#[]⟩:ByteArray),.string (⟨#[]⟩:ByteArray),.bool false]) (t:=58) ?hr ?_;(case hd=>rfl);(case hg=>rfl);(case hr=>first|(go_simp;done)|(go_simp;rfl));intro nW hg w45 cM hb;have bI:=ah.mk (aR (g:=cG) (o:= .cells #[.int .u8 aI,.string bh,.bool bn,.slice dn bT.length dw,.string bz,.string bW,.bool bX,.slice (some Gq) bw.length dx] 35 (0,0)) kH hb);have bP:=ah.mk (az gu hb);have cw:=ah.mk (cM);have cW:=ah.mk ((lZ:w.heap.size≤nW));have jc:=ah.mk ((lZ:w.heap.size≤nW));have nv:=ah.mk ((Rq:cG≠nW));have nI:=ah.mk ((Rs:nW≠cG));clear bG;clear HB;have bG:=bI;have HB:=bP;have lf:=cw;have ag1:=cW;have abE:=jc;have tL:=nv;have DD:=nI;clear bI bP cw cW jc nv nI;clear hb cM hg;have af8:=DD.out;have af9:=tL.out;have aaM:w45.cell? ⟨nW,0,none⟩=some (.string (⟨#[]⟩:ByteArray)):=(af lf.out 0).trans rfl;have aaN:w45.cell? ⟨nW,1,none⟩=some (.string (⟨#[]⟩:ByteArray)):=(af lf.out 1).trans rfl;have aaO:w45.cell? ⟨nW,2,none⟩=some (.bool false):=(af lf.out 2).trans rfl;have aaP:=aa lf.out 0;have aaQ:=aa lf.out 1;have aaR:=aa lf.out 2)|((with_reducible refine aT (f:=39) rfl ?_);refine cC (some 78) rfl rfl Tryz.func39 av rfl #[.string ((⟨#[32]⟩:ByteArray) ++ ((cv bw gj).f0)),.slice A1 l1.length c1] rfl cY ?_;(with_reducible refine (dY.calls ((⟨#[32]⟩:ByteArray) ++ ((cv bw gj).f0)) _ _ l1 sS _ ?bg ?bY A39.out).mono ?_);(case bg=>exact Kd.dI HR1.out Dm);(case bY=>exact HC1.out);rintro e w48 ⟨rfl,hb⟩;refine ⟨_,rfl,?_⟩;have bI:=ah.mk (aR (g:=cG) (o:= .cells #[.int .u8 aI,.string bh,.bool bn,.slice dn bT.length dw,.string bz,.string bW,.bool bX,.slice (some Gq) bw.length dx] 35 (0,0)) Rn hb);have bP:=ah.mk (aR (g:=nW) (o:= .cells #[.string ((cv bw gj).f0),.string ((cv bw gj).f1),.bool true] 58 (0,0)) Wo hb);have cw:=ah.mk (az Dm hb);clear bG;clear lf;clear HB;have bG:=bI;have lf:=bP;have HB:=cw;clear bI bP cw;(try clear hb);(try clear hb2);(try clear hk);(try clear hi);have alS:w48.cell? ⟨nW,0,none⟩=some (.string ((cv bw gj).f0)):=(af lf.out 0).trans rfl;have alT:w48.cell? ⟨nW,1,none⟩=some (.string ((cv bw gj).f1)):=(af lf.out 1).trans rfl;have alU:w48.cell? ⟨nW,2,none⟩=some (.bool true):=(af lf.out 2).trans rfl;have alV:=aa lf.out 0;have alW:=aa lf.out 1;have alX:=aa lf.out 2))
                        go_roundg k3
                        case measure=>have:=Vi.out;have:=abk.out;have:=HK3.out;omega
                        case rel=>exact ⟨((ny ++ sS) ++ ((⟨#[61]⟩:ByteArray) ++ ((cv bw gj).f1))),(wrap64 (gj + 1)),dL,dL,H',⟨by have:=Vi.out;have:=abk.out;have:=HK3.out;omega⟩,⟨kH⟩,⟨Dm⟩⟩
                       ·rw [if_neg VV] at H
                        exact absurd H bf
                      ·rw [if_neg c43] at H
                       exact absurd H bf
                     ·replace XL:=Bool.eq_false_iff.mpr XL
                      subst XL
                      have H1:(aC.l0 k3 l1 eH (ny ++ sS) bw (bw.length:Int) (wrap64 (gj + 1)) aI bh bn bT bz bW bX bw)=some r:=by rw [if_neg (show ¬ (false=true) by decide)] at H;exact H
                      clear H
                      have H:=H1
                      clear H1
                      have H':=ah.mk H
                      clear H
                      have QE: 0≤(gj:Int):=of_decide_eq_true cO
                      have QF:gj < (bw.length:Int):=of_decide_eq_true cO
                      obtain ⟨Gq,aen,yc,yf,tJ⟩:=vY lS.out gj QE QF
                      (try rw [← acB.out] at tJ)
                      cases aen
                      replace yc:=(HB.out.cell (World.block_lt_of_cell? w _ yc)).trans yc
                      replace yf:=(HB.out.cell (World.block_lt_of_cell? w _ yf)).trans yf
                      replace tJ:=(HB.out.cell (World.block_lt_of_cell? w _ tJ)).trans tJ
                      replace QE:=eq_true QE
                      replace QF:=eq_true QF
                      go_wp2_with (first|((with_reducible refine cK (N:=13) rfl ?_);refine cu ?hg (N:=13) ?hd (cs:=#[.string (⟨#[]⟩:ByteArray),.string (⟨#[]⟩:ByteArray),.bool false]) (t:=58) ?hr ?_;(case hd=>rfl);(case hg=>rfl);(case hr=>first|(go_simp;done)|(go_simp;rfl));intro nW hg w50 cM hb;have bI:=ah.mk (aR (g:=cG) (o:= .cells #[.int .u8 aI,.string bh,.bool bn,.slice dn bT.length dw,.string bz,.string bW,.bool bX,.slice (some Gq) bw.length dx] 35 (0,0)) kH hb);have bP:=ah.mk (az gu hb);have cw:=ah.mk (cM);have cW:=ah.mk ((lZ:w.heap.size≤nW));have jc:=ah.mk ((lZ:w.heap.size≤nW));have nv:=ah.mk ((Rq:cG≠nW));have nI:=ah.mk ((Rs:nW≠cG));clear bG;clear HB;have bG:=bI;have HB:=bP;have lf:=cw;have ag1:=cW;have abE:=jc;have tL:=nv;have DD:=nI;clear bI bP cw cW jc nv nI;clear hb cM hg;have arK:=DD.out;have arL:=tL.out;have alY:w50.cell? ⟨nW,0,none⟩=some (.string (⟨#[]⟩:ByteArray)):=(af lf.out 0).trans rfl;have alZ:w50.cell? ⟨nW,1,none⟩=some (.string (⟨#[]⟩:ByteArray)):=(af lf.out 1).trans rfl;have al0:w50.cell? ⟨nW,2,none⟩=some (.bool false):=(af lf.out 2).trans rfl;have al1:=aa lf.out 0;have al2:=aa lf.out 1;have al3:=aa lf.out 2)|((with_reducible refine aT (f:=39) rfl ?_);refine cC (some 78) rfl rfl Tryz.func39 av rfl #[.string ((⟨#[32]⟩:ByteArray) ++ ((cv bw gj).f0)),.slice A1 l1.length c1] rfl cY ?_;(with_reducible refine (dY.calls ((⟨#[32]⟩:ByteArray) ++ ((cv bw gj).f0)) _ _ l1 sS _ ?bg ?bY A39.out).mono ?_);(case bg=>exact Kd.dI HR1.out Dm);(case bY=>exact HC1.out);rintro e w53 ⟨rfl,hb⟩;refine ⟨_,rfl,?_⟩;have bI:=ah.mk (aR (g:=cG) (o:= .cells #[.int .u8 aI,.string bh,.bool bn,.slice dn bT.length dw,.string bz,.string bW,.bool bX,.slice (some Gq) bw.length dx] 35 (0,0)) Rn hb);have bP:=ah.mk (aR (g:=nW) (o:= .cells #[.string ((cv bw gj).f0),.string ((cv bw gj).f1),.bool false] 58 (0,0)) Wo hb);have cw:=ah.mk (az Dm hb);clear bG;clear lf;clear HB;have bG:=bI;have lf:=bP;have HB:=cw;clear bI bP cw;(try clear hb);(try clear hb2);(try clear hk);(try clear hi);have al4:w53.cell? ⟨nW,0,none⟩=some (.string ((cv bw gj).f0)):=(af lf.out 0).trans rfl;have al5:w53.cell? ⟨nW,1,none⟩=some (.string ((cv bw gj).f1)):=(af lf.out 1).trans rfl;have al6:w53.cell? ⟨nW,2,none⟩=some (.bool false):=(af lf.out 2).trans rfl;have al7:=aa lf.out 0;have al8:=aa lf.out 1;have al9:=aa lf.out 2))
                      go_roundg k3
                      case measure=>have:=Vi.out;have:=abk.out;have:=HK3.out;omega
                      case rel=>exact ⟨(ny ++ sS),(wrap64 (gj + 1)),dL,dL,H',⟨by have:=Vi.out;have:=abk.out;have:=HK3.out;omega⟩,⟨kH⟩,⟨Dm⟩⟩
                    ·rw [if_neg c40] at H
                     exact absurd H bf
                   ·rw [if_neg MI] at H
                    exact absurd H bf
                  ·rw [if_neg c37] at H
                   exact absurd H bf
                 ·rw [if_neg Y8] at H
                  exact absurd H bf
                ·rw [if_neg VS] at H
                 have ab1:decide (gj < (bw.length:Int))=false:=decide_eq_false VS
                 clear VS
                 replace H:=Option.bind_eq_some_iff.mp H
                 obtain ⟨⟨qV,sj,tq,tu,wC,yE,AK,AL,I0⟩,ag2,H⟩:=H
                 replace H:(if (ny.size:Int)=(eH.size:Int) then (if I0=0 then ((aZ.f k3 aI bh bn bT bz bW bX bw qV sj tq tu wC yE AK AL).bind fun Vh=>(if Vh=true then ((bO.f k3).bind fun IZ=>(some IZ)) else (some false))) else (some false)) else (some false))=some r:=H
                 have A55:=ah.mk ag2
                 clear ag2
                 by_cases Ym:(ny.size:Int)=(eH.size:Int)
                 ·rw [if_pos Ym] at H
                  have ag3:((ny.size:Int) == (eH.size:Int))=true:=beq_iff_eq.mpr Ym
                  have ag4:((ny.size:Int) != (eH.size:Int))=false:=bne_eq_false_iff_eq.mpr Ym
                  have ag5:(ny.size == eH.size)=true:=by first|simpa using Ym|(simp at Ym ⊢;omega)
                  clear Ym
                  by_cases c57:I0=0
                  ·rw [if_pos c57] at H
                   have ag6:(I0 == 0)=true:=beq_iff_eq.mpr c57
                   have ag7:(I0 != 0)=false:=bne_eq_false_iff_eq.mpr c57
                   clear c57
                   replace H:=Option.bind_eq_some_iff.mp H
                   obtain ⟨Vh,ag8,H⟩:=H
                   replace H:(if Vh=true then ((bO.f k3).bind fun IZ=>(some IZ)) else (some false))=some r:=H
                   have A58:=ah.mk ag8
                   clear ag8
                   by_cases c59:Vh=true
                   ·subst c59
                    have H1:((bO.f k3).bind fun IZ=>(some IZ))=some r:=by rw [if_pos rfl] at H;exact H
                    clear H
                    have H:=H1
                    clear H1
                    replace H:=Option.bind_eq_some_iff.mp H
                    obtain ⟨IZ,ag9,H⟩:=H
                    replace H:(some IZ)=some r:=H
                    have yF:=ah.mk ag9
                    clear ag9
                    obtain rfl:=Option.some.inj H
                    go_wp2_with (first|((with_reducible refine aT (f:=35) rfl ?_);refine cC (some 90) rfl rfl Tryz.func35 av rfl #[.string ny] rfl cY ?_;(with_reducible refine (ak.calls k3 ny qV sj tq tu wC yE AK AL I0 _ ?bg A55.out).mono ?_);(case bg=>exact aW.below HG.out gu);rintro e w61 ⟨aep,aer,rfl,ho0,oN,hb⟩;refine ⟨_,rfl,?_⟩;have bI:=ah.mk (Kd.gv ho0 (dK gu));have bP:=ah.mk (Kd.gv oN (dK gu));have cw:=ah.mk (aR (g:=cG) (o:= .cells #[.int .u8 aI,.string bh,.bool bn,.slice dn bT.length dw,.string bz,.string bW,.bool bX,.slice dF bw.length dx] 35 (0,0)) kH hb);have cW:=ah.mk (az gu hb);clear bG;clear HB;have mh:=bI;have mj:=bP;have bG:=cw;have HB:=cW;clear bI bP cw cW;(try clear hb);(try clear hb2);(try clear hk);(try clear hi);(try clear ho0);(try clear oN))|((with_reducible refine cK (N:=14) rfl ?_);refine cu ?hg (N:=14) ?hd (cs:=#[.int .u8 0,.string (⟨#[]⟩:ByteArray),.bool false,.slice none 0 0,.string (⟨#[]⟩:ByteArray),.string (⟨#[]⟩:ByteArray),.bool false,.slice none 0 0]) (t:=35) ?hr ?_;(case hd=>rfl);(case hg=>rfl);(case hr=>first|(go_simp;done)|(go_simp;rfl));intro eP hg Pk cM hb;have bI:=ah.mk (Kd.dA BJ hb);have bP:=ah.mk (Kd.dA BK hb);have cw:=ah.mk (aR (g:=cG) (o:= .cells #[.int .u8 aI,.string bh,.bool bn,.slice dn bT.length dw,.string bz,.string bW,.bool bX,.slice dF bw.length dx] 35 (0,0)) kH hb);have cW:=ah.mk (az gu hb);have jc:=ah.mk (cM);have nv:=ah.mk ((lZ:w.heap.size≤eP));have nI:=ah.mk ((lZ:w.heap.size≤eP));have wD:=ah.mk ((yJ:cG≠eP));have yA:=ah.mk ((yK:eP≠cG));clear mh;clear mj;clear bG;clear HB;have mh:=bI;have mj:=bP;have bG:=cw;have HB:=cW;have fq:=jc;have Yn:=nv;have Rj:=nI;have j4:=wD;have rG:=yA;clear bI bP cw cW jc nv nI wD yA;clear hb cM hg;have arN:=rG.out;have arO:=j4.out;have amb:Pk.cell? ⟨eP,0,none⟩=some (.int .u8 0):=(af fq.out 0).trans rfl;have amc:Pk.cell? ⟨eP,1,none⟩=some (.string (⟨#[]⟩:ByteArray)):=(af fq.out 1).trans rfl;have amd:Pk.cell? ⟨eP,2,none⟩=some (.bool false):=(af fq.out 2).trans rfl;have ame:Pk.cell? ⟨eP,3,none⟩=some (.slice none 0 0):=(af fq.out 3).trans rfl;have amf:Pk.cell? ⟨eP,4,none⟩=some (.string (⟨#[]⟩:ByteArray)):=(af fq.out 4).trans rfl;have amg:Pk.cell? ⟨eP,5,none⟩=some (.string (⟨#[]⟩:ByteArray)):=(af fq.out 5).trans rfl;have amh:Pk.cell? ⟨eP,6,none⟩=some (.bool false):=(af fq.out 6).trans rfl;have ami:Pk.cell? ⟨eP,7,none⟩=some (.slice none 0 0):=(af fq.out 7).trans rfl;have amj:=aa fq.out 0;have amk:=aa fq.out 1;have aml:=aa fq.out 2;have amm:=aa fq.out 3;have amn:=aa fq.out 4;have amo:=aa fq.out 5;have amq:=aa fq.out 6;have amr:=aa fq.out 7;obtain ⟨MQ,JS,apo⟩:=Kd.eB mh.out;subst apo;obtain ⟨Ze,Wi,apq⟩:=Kd.eB mj.out;subst apq;have ams:Pk.cell? ⟨cG,0,none⟩=some (.int .u8 aI):=(af bG.out 0).trans rfl;have amt:Pk.cell? ⟨cG,1,none⟩=some (.string bh):=(af bG.out 1).trans rfl;have amu:Pk.cell? ⟨cG,2,none⟩=some (.bool bn):=(af bG.out 2).trans rfl;have amv:Pk.cell? ⟨cG,3,none⟩=some (.slice dn bT.length dw):=(af bG.out 3).trans rfl;have amw:Pk.cell? ⟨cG,4,none⟩=some (.string bz):=(af bG.out 4).trans rfl;have amx:Pk.cell? ⟨cG,5,none⟩=some (.string bW):=(af bG.out 5).trans rfl;have amy:Pk.cell? ⟨cG,6,none⟩=some (.bool bX):=(af bG.out 6).trans rfl;have amz:Pk.cell? ⟨cG,7,none⟩=some (.slice dF bw.length dx):=(af bG.out 7).trans rfl;have amA:=aa bG.out 0;have amB:=aa bG.out 1;have amC:=aa bG.out 2;have amD:=aa bG.out 3;have amE:=aa bG.out 4;have amF:=aa bG.out 5;have amG:=aa bG.out 6;have amH:=aa bG.out 7)|(go_at_call 36;(with_reducible refine (aZ.calls k3 aI bh bn _ _ bT bz bW bX _ _ bw qV sj tq _ _ tu wC yE AK _ _ AL true _ ?bg ?bY ?eI ?gP ?iV ?zj ?zk ?zl A58.out).mono ?_);(case bg=>exact Kd.dI kV.out sW);(case bY=>exact kW.out);(case eI=>exact Kd.dI lS.out sW);(case gP=>exact oD.out);(case iV=>refine (Kd.fD (e:=9) (base:=w.heap.size) (ok:=fun k_ =>True) (n:=tu.length) (c:=JS) ?_).2.2;exact Wh);(case zj=>exact (Kd.fD mh.out).2.1);(case zk=>refine (Kd.fD (e:=58) (base:=w.heap.size) (ok:=fun k_ =>True) (n:=AL.length) (c:=Wi) ?_).2.2;exact Wj);(case zl=>exact (Kd.fD mj.out).2.1);rintro e w68 ⟨rfl,hb⟩;have bI:=ah.mk (Kd.dA Wh hb);have bP:=ah.mk (Kd.dA Wj hb);have cw:=ah.mk (aR (g:=cG) (o:= .cells #[.int .u8 aI,.string bh,.bool bn,.slice dn bT.length dw,.string bz,.string bW,.bool bX,.slice dF bw.length dx] 35 (0,0)) V5 hb);have cW:=ah.mk (aR (g:=eP) (o:= .cells #[.int .u8 qV,.string sj,.bool tq,.slice MQ tu.length JS,.string wC,.string yE,.bool AK,.slice Ze AL.length Wi] 35 (0,0)) (by (with_reducible repeat (first|refine aK ?_ _|refine aV ?_|refine aJ ?_ _));refine cj (cs:=#[.int .u8 qV,.string sj,.bool tq,.slice MQ tu.length JS,.string wC,.string yE,.bool AK,.slice none 0 0]) ?_ 7 _ rfl;(with_reducible repeat (first|refine aK ?_ _|refine aV ?_|refine aJ ?_ _));refine cj (cs:=#[.int .u8 qV,.string sj,.bool tq,.slice MQ tu.length JS,.string wC,.string yE,.bool false,.slice none 0 0]) ?_ 6 _ rfl;(with_reducible repeat (first|refine aK ?_ _|refine aV ?_|refine aJ ?_ _));refine cj (cs:=#[.int .u8 qV,.string sj,.bool tq,.slice MQ tu.length JS,.string wC,.string (⟨#[]⟩:ByteArray),.bool false,.slice none 0 0]) ?_ 5 _ rfl;(with_reducible repeat (first|refine aK ?_ _|refine aV ?_|refine aJ ?_ _));refine cj (cs:=#[.int .u8 qV,.string sj,.bool tq,.slice MQ tu.length JS,.string (⟨#[]⟩:ByteArray),.string (⟨#[]⟩:ByteArray),.bool false,.slice none 0 0]) ?_ 4 _ rfl;(with_reducible repeat (first|refine aK ?_ _|refine aV ?_|refine aJ ?_ _));refine cj (cs:=#[.int .u8 qV,.string sj,.bool tq,.slice none 0 0,.string (⟨#[]⟩:ByteArray),.string (⟨#[]⟩:ByteArray),.bool false,.slice none 0 0]) ?_ 3 _ rfl;(with_reducible repeat (first|refine aK ?_ _|refine aV ?_|refine aJ ?_ _));refine cj (cs:=#[.int .u8 qV,.string sj,.bool false,.slice none 0 0,.string (⟨#[]⟩:ByteArray),.string (⟨#[]⟩:ByteArray),.bool false,.slice none 0 0]) ?_ 2 _ rfl;(with_reducible repeat (first|refine aK ?_ _|refine aV ?_|refine aJ ?_ _));refine cj (cs:=#[.int .u8 qV,.string (⟨#[]⟩:ByteArray),.bool false,.slice none 0 0,.string (⟨#[]⟩:ByteArray),.string (⟨#[]⟩:ByteArray),.bool false,.slice none 0 0]) ?_ 1 _ rfl;(with_reducible repeat (first|refine aK ?_ _|refine aV ?_|refine aJ ?_ _));refine cj (cs:=#[.int .u8 0,.string (⟨#[]⟩:ByteArray),.bool false,.slice none 0 0,.string (⟨#[]⟩:ByteArray),.string (⟨#[]⟩:ByteArray),.bool false,.slice none 0 0]) ?_ 0 _ rfl;(with_reducible repeat (first|refine aK ?_ _|refine aV ?_|refine aJ ?_ _));exact fq.out) hb);have jc:=ah.mk (az sW hb);clear mh;clear mj;clear bG;clear fq;clear HB;have mh:=bI;have mj:=bP;have bG:=cw;have fq:=cW;have HB:=jc;clear bI bP cw cW jc;(try clear hb);(try clear hb2);(try clear hk);(try clear hi))|(go_at_call 15;(with_reducible refine (bO.calls k3 IZ _ ?bg yF.out).mono ?_);(case bg=>exact aW.below HG.out sW);rintro e w69 ⟨rfl,hb⟩;have bI:=ah.mk (Kd.dA BJ hb);have bP:=ah.mk (Kd.dA BK hb);have cw:=ah.mk (aR (g:=cG) (o:= .cells #[.int .u8 aI,.string bh,.bool bn,.slice dn bT.length dw,.string bz,.string bW,.bool bX,.slice dF bw.length dx] 35 (0,0)) kH hb);have cW:=ah.mk (aR (g:=eP) (o:= .cells #[.int .u8 qV,.string sj,.bool tq,.slice MQ tu.length JS,.string wC,.string yE,.bool AK,.slice Ze AL.length Wi] 35 (0,0)) (by (with_reducible repeat (first|refine aK ?_ _|refine aV ?_|refine aJ ?_ _));exact fq.out) hb);have jc:=ah.mk (az sW hb);clear mh;clear mj;clear bG;clear fq;clear HB;have mh:=bI;have mj:=bP;have bG:=cw;have fq:=cW;have HB:=jc;clear bI bP cw cW jc;(try clear hb);(try clear hb2);(try clear hk);(try clear hi)))
                    go_ret
                    exact ⟨cU,sW⟩
                   ·replace c59:=Bool.eq_false_iff.mpr c59
                    subst c59
                    have H1:(some false)=some r:=by rw [if_neg (show ¬ (false=true) by decide)] at H;exact H
                    clear H
                    have H:=H1
                    clear H1
                    obtain rfl:=Option.some.inj H
                    go_wp2_with (first|((with_reducible refine aT (f:=35) rfl ?_);refine cC (some 90) rfl rfl Tryz.func35 av rfl #[.string ny] rfl cY ?_;(with_reducible refine (ak.calls k3 ny qV sj tq tu wC yE AK AL I0 _ ?bg A55.out).mono ?_);(case bg=>exact aW.below HG.out gu);rintro e w70 ⟨aep,aer,rfl,ho0,oN,hb⟩;refine ⟨_,rfl,?_⟩;have bI:=ah.mk (Kd.gv ho0 (dK gu));have bP:=ah.mk (Kd.gv oN (dK gu));have cw:=ah.mk (aR (g:=cG) (o:= .cells #[.int .u8 aI,.string bh,.bool bn,.slice dn bT.length dw,.string bz,.string bW,.bool bX,.slice dF bw.length dx] 35 (0,0)) kH hb);have cW:=ah.mk (az gu hb);clear bG;clear HB;have mh:=bI;have mj:=bP;have bG:=cw;have HB:=cW;clear bI bP cw cW;(try clear hb);(try clear hb2);(try clear hk);(try clear hi);(try clear ho0);(try clear oN))|((with_reducible refine cK (N:=14) rfl ?_);refine cu ?hg (N:=14) ?hd (cs:=#[.int .u8 0,.string (⟨#[]⟩:ByteArray),.bool false,.slice none 0 0,.string (⟨#[]⟩:ByteArray),.string (⟨#[]⟩:ByteArray),.bool false,.slice none 0 0]) (t:=35) ?hr ?_;(case hd=>rfl);(case hg=>rfl);(case hr=>first|(go_simp;done)|(go_simp;rfl));intro eP hg Pm cM hb;have bI:=ah.mk (Kd.dA BJ hb);have bP:=ah.mk (Kd.dA BK hb);have cw:=ah.mk (aR (g:=cG) (o:= .cells #[.int .u8 aI,.string bh,.bool bn,.slice dn bT.length dw,.string bz,.string bW,.bool bX,.slice dF bw.length dx] 35 (0,0)) kH hb);have cW:=ah.mk (az gu hb);have jc:=ah.mk (cM);have nv:=ah.mk ((lZ:w.heap.size≤eP));have nI:=ah.mk ((lZ:w.heap.size≤eP));have wD:=ah.mk ((yJ:cG≠eP));have yA:=ah.mk ((yK:eP≠cG));clear mh;clear mj;clear bG;clear HB;have mh:=bI;have mj:=bP;have bG:=cw;have HB:=cW;have fq:=jc;have Yn:=nv;have Rj:=nI;have j4:=wD;have rG:=yA;clear bI bP cw cW jc nv nI wD yA;clear hb cM hg;have arP:=rG.out;have arQ:=j4.out;have amI:Pm.cell? ⟨eP,0,none⟩=some (.int .u8 0):=(af fq.out 0).trans rfl;have amJ:Pm.cell? ⟨eP,1,none⟩=some (.string (⟨#[]⟩:ByteArray)):=(af fq.out 1).trans rfl;have amK:Pm.cell? ⟨eP,2,none⟩=some (.bool false):=(af fq.out 2).trans rfl;have amL:Pm.cell? ⟨eP,3,none⟩=some (.slice none 0 0):=(af fq.out 3).trans rfl;have amM:Pm.cell? ⟨eP,4,none⟩=some (.string (⟨#[]⟩:ByteArray)):=(af fq.out 4).trans rfl;have amN:Pm.cell? ⟨eP,5,none⟩=some (.string (⟨#[]⟩:ByteArray)):=(af fq.out 5).trans rfl;have amO:Pm.cell? ⟨eP,6,none⟩=some (.bool false):=(af fq.out 6).trans rfl;have amP:Pm.cell? ⟨eP,7,none⟩=some (.slice none 0 0):=(af fq.out 7).trans rfl;have amQ:=aa fq.out 0;have amR:=aa fq.out 1;have amS:=aa fq.out 2;have amT:=aa fq.out 3;have amU:=aa fq.out 4;have amV:=aa fq.out 5;have amW:=aa fq.out 6;have amX:=aa fq.out 7;obtain ⟨Px,MR,apr⟩:=Kd.eB mh.out;subst apr;obtain ⟨acQ,Zf,aps⟩:=Kd.eB mj.out;subst aps;have amY:Pm.cell? ⟨cG,0,none⟩=some (.int .u8 aI):=(af bG.out 0).trans rfl;have amZ:Pm.cell? ⟨cG,1,none⟩=some (.string bh):=(af bG.out 1).trans rfl;have am0:Pm.cell? ⟨cG,2,none⟩=some (.bool bn):=(af bG.out 2).trans rfl;have am1:Pm.cell? ⟨cG,3,none⟩=some (.slice dn bT.length dw):=(af bG.out 3).trans rfl;have am2:Pm.cell? ⟨cG,4,none⟩=some (.string bz):=(af bG.out 4).trans rfl;have am3:Pm.cell? ⟨cG,5,none⟩=some (.string bW):=(af bG.out 5).trans rfl;have am4:Pm.cell? ⟨cG,6,none⟩=some (.bool bX):=(af bG.out 6).trans rfl;have am5:Pm.cell? ⟨cG,7,none⟩=some (.slice dF bw.length dx):=(af bG.out 7).trans rfl;have am6:=aa bG.out 0;have am7:=aa bG.out 1;have am8:=aa bG.out 2;have am9:=aa bG.out 3;have ana:=aa bG.out 4;have anb:=aa bG.out 5;have anc:=aa bG.out 6;have ane:=aa bG.out 7)|(go_at_call 36;(with_reducible refine (aZ.calls k3 aI bh bn _ _ bT bz bW bX _ _ bw qV sj tq _ _ tu wC yE AK _ _ AL false _ ?bg ?bY ?eI ?gP ?iV ?zj ?zk ?zl A58.out).mono ?_);(case bg=>exact Kd.dI kV.out sW);(case bY=>exact kW.out);(case eI=>exact Kd.dI lS.out sW);(case gP=>exact oD.out);(case iV=>refine (Kd.fD (e:=9) (base:=w.heap.size) (ok:=fun k_ =>True) (n:=tu.length) (c:=MR) ?_).2.2;exact Wk);(case zj=>exact (Kd.fD mh.out).2.1);(case zk=>refine (Kd.fD (e:=58) (base:=w.heap.size) (ok:=fun k_ =>True) (n:=AL.length) (c:=Zf) ?_).2.2;exact Wl);(case zl=>exact (Kd.fD mj.out).2.1);rintro e w77 ⟨rfl,hb⟩;have bI:=ah.mk (Kd.dA Wk hb);have bP:=ah.mk (Kd.dA Wl hb);have cw:=ah.mk (aR (g:=cG) (o:= .cells #[.int .u8 aI,.string bh,.bool bn,.slice dn bT.length dw,.string bz,.string bW,.bool bX,.slice dF bw.length dx] 35 (0,0)) V5 hb);have cW:=ah.mk (aR (g:=eP) (o:= .cells #[.int .u8 qV,.string sj,.bool tq,.slice Px tu.length MR,.string wC,.string yE,.bool AK,.slice acQ AL.length Zf] 35 (0,0)) (by (with_reducible repeat (first|refine aK ?_ _|refine aV ?_|refine aJ ?_ _));refine cj (cs:=#[.int .u8 qV,.string sj,.bool tq,.slice Px tu.length MR,.string wC,.string yE,.bool AK,.slice none 0 0]) ?_ 7 _ rfl;(with_reducible repeat (first|refine aK ?_ _|refine aV ?_|refine aJ ?_ _));refine cj (cs:=#[.int .u8 qV,.string sj,.bool tq,.slice Px tu.length MR,.string wC,.string yE,.bool false,.slice none 0 0]) ?_ 6 _ rfl;(with_reducible repeat (first|refine aK ?_ _|refine aV ?_|refine aJ ?_ _));refine cj (cs:=#[.int .u8 qV,.string sj,.bool tq,.slice Px tu.length MR,.string wC,.string (⟨#[]⟩:ByteArray),.bool false,.slice none 0 0]) ?_ 5 _ rfl;(with_reducible repeat (first|refine aK ?_ _|refine aV ?_|refine aJ ?_ _));refine cj (cs:=#[.int .u8 qV,.string sj,.bool tq,.slice Px tu.length MR,.string (⟨#[]⟩:ByteArray),.string (⟨#[]⟩:ByteArray),.bool false,.slice none 0 0]) ?_ 4 _ rfl;(with_reducible repeat (first|refine aK ?_ _|refine aV ?_|refine aJ ?_ _));refine cj (cs:=#[.int .u8 qV,.string sj,.bool tq,.slice none 0 0,.string (⟨#[]⟩:ByteArray),.string (⟨#[]⟩:ByteArray),.bool false,.slice none 0 0]) ?_ 3 _ rfl;(with_reducible repeat (first|refine aK ?_ _|refine aV ?_|refine aJ ?_ _));refine cj (cs:=#[.int .u8 qV,.string sj,.bool false,.slice none 0 0,.string (⟨#[]⟩:ByteArray),.string (⟨#[]⟩:ByteArray),.bool false,.slice none 0 0]) ?_ 2 _ rfl;(with_reducible repeat (first|refine aK ?_ _|refine aV ?_|refine aJ ?_ _));refine cj (cs:=#[.int .u8 qV,.string (⟨#[]⟩:ByteArray),.bool false,.slice none 0 0,.string (⟨#[]⟩:ByteArray),.string (⟨#[]⟩:ByteArray),.bool false,.slice none 0 0]) ?_ 1 _ rfl;(with_reducible repeat (first|refine aK ?_ _|refine aV ?_|refine aJ ?_ _));refine cj (cs:=#[.int .u8 0,.string (⟨#[]⟩:ByteArray),.bool false,.slice none 0 0,.string (⟨#[]⟩:ByteArray),.string (⟨#[]⟩:ByteArray),.bool false,.slice none 0 0]) ?_ 0 _ rfl;(with_reducible repeat (first|refine aK ?_ _|refine aV ?_|refine aJ ?_ _));exact fq.out) hb);have jc:=ah.mk (az sW hb);clear mh;clear mj;clear bG;clear fq;clear HB;have mh:=bI;have mj:=bP;have bG:=cw;have fq:=cW;have HB:=jc;clear bI bP cw cW jc;(try clear hb);(try clear hb2);(try clear hk);(try clear hi)))
                    go_ret
                    exact ⟨cU,sW⟩
                  ·rw [if_neg c57] at H
                   have ag6:(I0 == 0)=false:=beq_eq_false_iff_ne.mpr c57
                   have ag7:(I0 != 0)=true:=bne_iff_ne.mpr c57
                   obtain rfl:=Option.some.inj H
                   go_wp2_with (first|((with_reducible refine aT (f:=35) rfl ?_);refine cC (some 90) rfl rfl Tryz.func35 av rfl #[.string ny] rfl cY ?_;(with_reducible refine (ak.calls k3 ny qV sj tq tu wC yE AK AL I0 _ ?bg A55.out).mono ?_);(case bg=>exact aW.below HG.out gu);rintro e w78 ⟨aep,aer,rfl,ho0,oN,hb⟩;refine ⟨_,rfl,?_⟩;have bI:=ah.mk (Kd.gv ho0 (dK gu));have bP:=ah.mk (Kd.gv oN (dK gu));have cw:=ah.mk (aR (g:=cG) (o:= .cells #[.int .u8 aI,.string bh,.bool bn,.slice dn bT.length dw,.string bz,.string bW,.bool bX,.slice dF bw.length dx] 35 (0,0)) kH hb);have cW:=ah.mk (az gu hb);clear bG;clear HB;have mh:=bI;have mj:=bP;have bG:=cw;have HB:=cW;clear bI bP cw cW;(try clear hb);(try clear hb2);(try clear hk);(try clear hi);(try clear ho0);(try clear oN))|((with_reducible refine cK (N:=14) rfl ?_);refine cu ?hg (N:=14) ?hd (cs:=#[.int .u8 0,.string (⟨#[]⟩:ByteArray),.bool false,.slice none 0 0,.string (⟨#[]⟩:ByteArray),.string (⟨#[]⟩:ByteArray),.bool false,.slice none 0 0]) (t:=35) ?hr ?_;(case hd=>rfl);(case hg=>rfl);(case hr=>first|(go_simp;done)|(go_simp;rfl));intro eP hg w79 cM hb;have bI:=ah.mk (Kd.dA BJ hb);have bP:=ah.mk (Kd.dA BK hb);have cw:=ah.mk (aR (g:=cG) (o:= .cells #[.int .u8 aI,.string bh,.bool bn,.slice dn bT.length dw,.string bz,.string bW,.bool bX,.slice dF bw.length dx] 35 (0,0)) kH hb);have cW:=ah.mk (az gu hb);have jc:=ah.mk (cM);have nv:=ah.mk ((lZ:w.heap.size≤eP));have nI:=ah.mk ((lZ:w.heap.size≤eP));have wD:=ah.mk ((yJ:cG≠eP));have yA:=ah.mk ((yK:eP≠cG));clear mh;clear mj;clear bG;clear HB;have mh:=bI;have mj:=bP;have bG:=cw;have HB:=cW;have fq:=jc;have Yn:=nv;have Rj:=nI;have j4:=wD;have rG:=yA;clear bI bP cw cW jc nv nI wD yA;clear hb cM hg;have arR:=rG.out;have arS:=j4.out;have anf:w79.cell? ⟨eP,0,none⟩=some (.int .u8 0):=(af fq.out 0).trans rfl;have ang:w79.cell? ⟨eP,1,none⟩=some (.string (⟨#[]⟩:ByteArray)):=(af fq.out 1).trans rfl;have anh:w79.cell? ⟨eP,2,none⟩=some (.bool false):=(af fq.out 2).trans rfl;have ani:w79.cell? ⟨eP,3,none⟩=some (.slice none 0 0):=(af fq.out 3).trans rfl;have anj:w79.cell? ⟨eP,4,none⟩=some (.string (⟨#[]⟩:ByteArray)):=(af fq.out 4).trans rfl;have ank:w79.cell? ⟨eP,5,none⟩=some (.string (⟨#[]⟩:ByteArray)):=(af fq.out 5).trans rfl;have anl:w79.cell? ⟨eP,6,none⟩=some (.bool false):=(af fq.out 6).trans rfl;have anm:w79.cell? ⟨eP,7,none⟩=some (.slice none 0 0):=(af fq.out 7).trans rfl;have ann:=aa fq.out 0;have ano:=aa fq.out 1;have anp:=aa fq.out 2;have anq:=aa fq.out 3;have anr:=aa fq.out 4;have ant:=aa fq.out 5;have anu:=aa fq.out 6;have anv:=aa fq.out 7;obtain ⟨atO,atP,apt⟩:=Kd.eB mh.out;subst apt;obtain ⟨atQ,atS,apu⟩:=Kd.eB mj.out;subst apu))
                   go_ret
                   exact ⟨cU,sW⟩
                 ·rw [if_neg Ym] at H
                  have ag3:((ny.size:Int) == (eH.size:Int))=false:=beq_eq_false_iff_ne.mpr Ym
                  have ag4:((ny.size:Int) != (eH.size:Int))=true:=bne_iff_ne.mpr Ym
                  have ag5:(ny.size == eH.size)=false:=by first|simpa using Ym|(simp at Ym ⊢;omega)
                  obtain rfl:=Option.some.inj H
                  go_wp2_with (first|((with_reducible refine aT (f:=35) rfl ?_);refine cC (some 90) rfl rfl Tryz.func35 av rfl #[.string ny] rfl cY ?_;(with_reducible refine (ak.calls k3 ny qV sj tq tu wC yE AK AL I0 _ ?bg A55.out).mono ?_);(case bg=>exact aW.below HG.out gu);rintro e w84 ⟨aep,aer,rfl,ho0,oN,hb⟩;refine ⟨_,rfl,?_⟩;have bI:=ah.mk (Kd.gv ho0 (dK gu));have bP:=ah.mk (Kd.gv oN (dK gu));have cw:=ah.mk (aR (g:=cG) (o:= .cells #[.int .u8 aI,.string bh,.bool bn,.slice dn bT.length dw,.string bz,.string bW,.bool bX,.slice dF bw.length dx] 35 (0,0)) kH hb);have cW:=ah.mk (az gu hb);clear bG;clear HB;have mh:=bI;have mj:=bP;have bG:=cw;have HB:=cW;clear bI bP cw cW;(try clear hb);(try clear hb2);(try clear hk);(try clear hi);(try clear ho0);(try clear oN))|((with_reducible refine cK (N:=14) rfl ?_);refine cu ?hg (N:=14) ?hd (cs:=#[.int .u8 0,.string (⟨#[]⟩:ByteArray),.bool false,.slice none 0 0,.string (⟨#[]⟩:ByteArray),.string (⟨#[]⟩:ByteArray),.bool false,.slice none 0 0]) (t:=35) ?hr ?_;(case hd=>rfl);(case hg=>rfl);(case hr=>first|(go_simp;done)|(go_simp;rfl));intro eP hg w85 cM hb;have bI:=ah.mk (Kd.dA BJ hb);have bP:=ah.mk (Kd.dA BK hb);have cw:=ah.mk (aR (g:=cG) (o:= .cells #[.int .u8 aI,.string bh,.bool bn,.slice dn bT.length dw,.string bz,.string bW,.bool bX,.slice dF bw.length dx] 35 (0,0)) kH hb);have cW:=ah.mk (az gu hb);have jc:=ah.mk (cM);have nv:=ah.mk ((lZ:w.heap.size≤eP));have nI:=ah.mk ((lZ:w.heap.size≤eP));have wD:=ah.mk ((yJ:cG≠eP));have yA:=ah.mk ((yK:eP≠cG));clear mh;clear mj;clear bG;clear HB;have mh:=bI;have mj:=bP;have bG:=cw;have HB:=cW;have fq:=jc;have Yn:=nv;have Rj:=nI;have j4:=wD;have rG:=yA;clear bI bP cw cW jc nv nI wD yA;clear hb cM hg;have arT:=rG.out;have arU:=j4.out;have anw:w85.cell? ⟨eP,0,none⟩=some (.int .u8 0):=(af fq.out 0).trans rfl;have anx:w85.cell? ⟨eP,1,none⟩=some (.string (⟨#[]⟩:ByteArray)):=(af fq.out 1).trans rfl;have anz:w85.cell? ⟨eP,2,none⟩=some (.bool false):=(af fq.out 2).trans rfl;have anA:w85.cell? ⟨eP,3,none⟩=some (.slice none 0 0):=(af fq.out 3).trans rfl;have anB:w85.cell? ⟨eP,4,none⟩=some (.string (⟨#[]⟩:ByteArray)):=(af fq.out 4).trans rfl;have anC:w85.cell? ⟨eP,5,none⟩=some (.string (⟨#[]⟩:ByteArray)):=(af fq.out 5).trans rfl;have anD:w85.cell? ⟨eP,6,none⟩=some (.bool false):=(af fq.out 6).trans rfl;have anE:w85.cell? ⟨eP,7,none⟩=some (.slice none 0 0):=(af fq.out 7).trans rfl;have anF:=aa fq.out 0;have anG:=aa fq.out 1;have anH:=aa fq.out 2;have anI:=aa fq.out 3;have anJ:=aa fq.out 4;have anK:=aa fq.out 5;have anL:=aa fq.out 6;have anM:=aa fq.out 7;obtain ⟨atT,atU,apv⟩:=Kd.eB mh.out;subst apv;obtain ⟨atV,atW,apw⟩:=Kd.eB mj.out;subst apw))
                  go_ret
                  exact ⟨cU,sW⟩
             ·rw [if_neg IA] at H
              exact absurd H bf
            ·rw [if_neg c28] at H
             exact absurd H bf
           ·rw [if_neg IJ] at H
            exact absurd H bf
        ·replace Dh:=Bool.eq_false_iff.mpr Dh
         subst Dh
         have H1:((ak.f zm (kg ++ (eH.extract ((fT.size:Int):Int).toNat eH.size))).bind fun lJ=>(if ((kg ++ (eH.extract ((fT.size:Int):Int).toNat eH.size)).size:Int)=(eH.size:Int) then (if lJ.2.2.2.2.2.2.2.2=0 then ((aZ.f zm aI bh bn bT bz bW bX bw lJ.1 lJ.2.1 lJ.2.2.1 lJ.2.2.2.1 lJ.2.2.2.2.1 lJ.2.2.2.2.2.1 lJ.2.2.2.2.2.2.1 lJ.2.2.2.2.2.2.2.1).bind fun IY=>(if IY=true then ((bO.f zm).bind fun C6=>(some C6)) else (some false))) else (some false)) else (some false)))=some r:=by rw [if_neg (show ¬ (false=true) by decide)] at H;exact H
         clear H
         have H:=H1
         clear H1
         replace H:=Option.bind_eq_some_iff.mp H
         obtain ⟨⟨qU,rZ,td,tj,wB,yD,AH,AJ,I1⟩,aha,H⟩:=H
         replace H:(if ((kg ++ (eH.extract ((fT.size:Int):Int).toNat eH.size)).size:Int)=(eH.size:Int) then (if I1=0 then ((aZ.f zm aI bh bn bT bz bW bX bw qU rZ td tj wB yD AH AJ).bind fun IY=>(if IY=true then ((bO.f zm).bind fun C6=>(some C6)) else (some false))) else (some false)) else (some false))=some r:=H
         have A90:=ah.mk aha
         clear aha
         by_cases c91:((kg ++ (eH.extract ((fT.size:Int):Int).toNat eH.size)).size:Int)=(eH.size:Int)
         ·rw [if_pos c91] at H
          have Yo:(((kg ++ (eH.extract ((fT.size:Int):Int).toNat eH.size)).size:Int) == (eH.size:Int))=true:=beq_iff_eq.mpr c91
          have Yp:(kg.size + (eH.size - fT.size))=eH.size↔((kg ++ (eH.extract ((fT.size:Int):Int).toNat eH.size)).size:Int)=(eH.size:Int):=by {simp [ByteArray.size_append,ByteArray.size_extract];omega}
          have Hg:((kg.size + (eH.size - fT.size)) == eH.size)=true:=by {have q_ :=Yo;simp only [beq_iff_eq] at q_;rw [beq_iff_eq];exact Yp.mpr q_}
          have ahb:(((kg.size + (eH.size - fT.size)):Nat)=eH.size)=True:=by {have q_ :=Hg;simp only [beq_iff_eq] at q_;exact eq_true q_}
          have ahc:(((kg.size:Int) + ((eH.size - fT.size:Nat):Int))=(eH.size:Int))=True:=by {have q_ :=Hg;simp only [beq_iff_eq] at q_;exact eq_true aq}
          have ahd:(((kg.size:Int) + ((eH.size - fT.size:Nat):Int)) == (eH.size:Int))=true:=by {have q_ :=Hg;simp only [beq_iff_eq] at q_;rw [beq_iff_eq];omega}
          clear Yp
          have ahe:(((kg ++ (eH.extract ((fT.size:Int):Int).toNat eH.size)).size:Int) != (eH.size:Int))=false:=bne_eq_false_iff_eq.mpr c91
          have ahf:((kg ++ (eH.extract ((fT.size:Int):Int).toNat eH.size)).size == eH.size)=true:=by first|simpa using c91|(simp at c91 ⊢;omega)
          clear c91
          by_cases C0:I1=0
          ·rw [if_pos C0] at H
           have ahg:(I1 == 0)=true:=beq_iff_eq.mpr C0
           have ahh:(I1 != 0)=false:=bne_eq_false_iff_eq.mpr C0
           clear C0
           replace H:=Option.bind_eq_some_iff.mp H
           obtain ⟨IY,ahi,H⟩:=H
           replace H:(if IY=true then ((bO.f zm).bind fun C6=>(some C6)) else (some false))=some r:=H
           have A93:=ah.mk ahi
           clear ahi
           by_cases c94:IY=true
           ·subst c94
            have H1:((bO.f zm).bind fun C6=>(some C6))=some r:=by rw [if_pos rfl] at H;exact H
            clear H
            have H:=H1
            clear H1
            replace H:=Option.bind_eq_some_iff.mp H
            obtain ⟨C6,ahj,H⟩:=H
            replace H:(some C6)=some r:=H
            have A95:=ah.mk ahj
            clear ahj
            obtain rfl:=Option.some.inj H
            go_wp2_with (first|((with_reducible refine aT (f:=35) rfl ?_);refine cC (some 90) rfl rfl Tryz.func35 av rfl #[.string (kg ++ (eH.extract ((fT.size:Int):Int).toNat eH.size))] rfl cY ?_;(with_reducible refine (ak.calls zm (kg ++ (eH.extract ((fT.size:Int):Int).toNat eH.size)) qU rZ td tj wB yD AH AJ I1 _ ?bg A90.out).mono ?_);(case bg=>exact aW.below HG.out gu);rintro e w96 ⟨aes,aet,rfl,ho0,oN,hb⟩;refine ⟨_,rfl,?_⟩;have bI:=ah.mk (Kd.gv ho0 (dK gu));have bP:=ah.mk (Kd.gv oN (dK gu));have cw:=ah.mk (aR (g:=cG) (o:= .cells #[.int .u8 aI,.string bh,.bool bn,.slice dn bT.length dw,.string bz,.string bW,.bool bX,.slice dF bw.length dx] 35 (0,0)) kH hb);have cW:=ah.mk (az gu hb);clear bG;clear HB;have l9:=bI;have mg:=bP;have bG:=cw;have HB:=cW;clear bI bP cw cW;(try clear hb);(try clear hb2);(try clear hk);(try clear hi);(try clear ho0);(try clear oN))|((with_reducible refine cK (N:=14) rfl ?_);refine cu ?hg (N:=14) ?hd (cs:=#[.int .u8 0,.string (⟨#[]⟩:ByteArray),.bool false,.slice none 0 0,.string (⟨#[]⟩:ByteArray),.string (⟨#[]⟩:ByteArray),.bool false,.slice none 0 0]) (t:=35) ?hr ?_;(case hd=>rfl);(case hg=>rfl);(case hr=>first|(go_simp;done)|(go_simp;rfl));intro eO hg Pn cM hb;have bI:=ah.mk (Kd.dA BL hb);have bP:=ah.mk (Kd.dA BM hb);have cw:=ah.mk (aR (g:=cG) (o:= .cells #[.int .u8 aI,.string bh,.bool bn,.slice dn bT.length dw,.string bz,.string bW,.bool bX,.slice dF bw.length dx] 35 (0,0)) kH hb);have cW:=ah.mk (az gu hb);have jc:=ah.mk (cM);have nv:=ah.mk ((lZ:w.heap.size≤eO));have nI:=ah.mk ((lZ:w.heap.size≤eO));have wD:=ah.mk ((yJ:cG≠eO));have yA:=ah.mk ((yK:eO≠cG));clear l9;clear mg;clear bG;clear HB;have l9:=bI;have mg:=bP;have bG:=cw;have HB:=cW;have fo:=jc;have Yq:=nv;have Rk:=nI;have j5:=wD;have rH:=yA;clear bI bP cw cW jc nv nI wD yA;clear hb cM hg;have arW:=rH.out;have arX:=j5.out;have anP:Pn.cell? ⟨eO,0,none⟩=some (.int .u8 0):=(af fo.out 0).trans rfl;have anQ:Pn.cell? ⟨eO,1,none⟩=some (.string (⟨#[]⟩:ByteArray)):=(af fo.out 1).trans rfl;have anR:Pn.cell? ⟨eO,2,none⟩=some (.bool false):=(af fo.out 2).trans rfl;have anS:Pn.cell? ⟨eO,3,none⟩=some (.slice none 0 0):=(af fo.out 3).trans rfl;have anT:Pn.cell? ⟨eO,4,none⟩=some (.string (⟨#[]⟩:ByteArray)):=(af fo.out 4).trans rfl;have anU:Pn.cell? ⟨eO,5,none⟩=some (.string (⟨#[]⟩:ByteArray)):=(af fo.out 5).trans rfl;have anV:Pn.cell? ⟨eO,6,none⟩=some (.bool false):=(af fo.out 6).trans rfl;have anW:Pn.cell? ⟨eO,7,none⟩=some (.slice none 0 0):=(af fo.out 7).trans rfl;have anX:=aa fo.out 0;have anY:=aa fo.out 1;have anZ:=aa fo.out 2;have an0:=aa fo.out 3;have an1:=aa fo.out 4;have an2:=aa fo.out 5;have an3:=aa fo.out 6;have an4:=aa fo.out 7;obtain ⟨DY,BH,ahk⟩:=Kd.eB l9.out;subst ahk;obtain ⟨Rl,MN,ahl⟩:=Kd.eB mg.out;subst ahl;have ahm:Pn.cell? ⟨cG,0,none⟩=some (.int .u8 aI):=(af bG.out 0).trans rfl;have ahn:Pn.cell? ⟨cG,1,none⟩=some (.string bh):=(af bG.out 1).trans rfl;have aho:Pn.cell? ⟨cG,2,none⟩=some (.bool bn):=(af bG.out 2).trans rfl;have ahp:Pn.cell? ⟨cG,3,none⟩=some (.slice dn bT.length dw):=(af bG.out 3).trans rfl;have ahq:Pn.cell? ⟨cG,4,none⟩=some (.string bz):=(af bG.out 4).trans rfl;have ahr:Pn.cell? ⟨cG,5,none⟩=some (.string bW):=(af bG.out 5).trans rfl;have ahs:Pn.cell? ⟨cG,6,none⟩=some (.bool bX):=(af bG.out 6).trans rfl;have aht:Pn.cell? ⟨cG,7,none⟩=some (.slice dF bw.length dx):=(af bG.out 7).trans rfl;have ahu:=aa bG.out 0;have ahv:=aa bG.out 1;have ahw:=aa bG.out 2;have ahx:=aa bG.out 3;have ahy:=aa bG.out 4;have ahz:=aa bG.out 5;have ahA:=aa bG.out 6;have ahB:=aa bG.out 7)|(go_at_call 36;(with_reducible refine (aZ.calls zm aI bh bn _ _ bT bz bW bX _ _ bw qU rZ td _ _ tj wB yD AH _ _ AJ true _ ?bg ?bY ?eI ?gP ?iV ?zj ?zk ?zl A93.out).mono ?_);(case bg=>exact Kd.dI kV.out sX);(case bY=>exact kW.out);(case eI=>exact Kd.dI lS.out sX);(case gP=>exact oD.out);(case iV=>refine (Kd.fD (e:=9) (base:=w.heap.size) (ok:=fun k_ =>True) (n:=tj.length) (c:=BH) ?_).2.2;exact V9);(case zj=>exact (Kd.fD l9.out).2.1);(case zk=>refine (Kd.fD (e:=58) (base:=w.heap.size) (ok:=fun k_ =>True) (n:=AJ.length) (c:=MN) ?_).2.2;exact Wa);(case zl=>exact (Kd.fD mg.out).2.1);rintro e atY ⟨rfl,hb⟩;have bI:=ah.mk (Kd.dA V9 hb);have bP:=ah.mk (Kd.dA Wa hb);have cw:=ah.mk (aR (g:=cG) (o:= .cells #[.int .u8 aI,.string bh,.bool bn,.slice dn bT.length dw,.string bz,.string bW,.bool bX,.slice dF bw.length dx] 35 (0,0)) V6 hb);have cW:=ah.mk (aR (g:=eO) (o:= .cells #[.int .u8 qU,.string rZ,.bool td,.slice DY tj.length BH,.string wB,.string yD,.bool AH,.slice Rl AJ.length MN] 35 (0,0)) (by (with_reducible repeat (first|refine aK ?_ _|refine aV ?_|refine aJ ?_ _));refine cj (cs:=#[.int .u8 qU,.string rZ,.bool td,.slice DY tj.length BH,.string wB,.string yD,.bool AH,.slice none 0 0]) ?_ 7 _ rfl;(with_reducible repeat (first|refine aK ?_ _|refine aV ?_|refine aJ ?_ _));refine cj (cs:=#[.int .u8 qU,.string rZ,.bool td,.slice DY tj.length BH,.string wB,.string yD,.bool false,.slice none 0 0]) ?_ 6 _ rfl;(with_reducible repeat (first|refine aK ?_ _|refine aV ?_|refine aJ ?_ _));refine cj (cs:=#[.int .u8 qU,.string rZ,.bool td,.slice DY tj.length BH,.string wB,.string (⟨#[]⟩:ByteArray),.bool false,.slice none 0 0]) ?_ 5 _ rfl;(with_reducible repeat (first|refine aK ?_ _|refine aV ?_|refine aJ ?_ _));refine cj (cs:=#[.int .u8 qU,.string rZ,.bool td,.slice DY tj.length BH,.string (⟨#[]⟩:ByteArray),.string (⟨#[]⟩:ByteArray),.bool false,.slice none 0 0]) ?_ 4 _ rfl;(with_reducible repeat (first|refine aK ?_ _|refine aV ?_|refine aJ ?_ _));refine cj (cs:=#[.int .u8 qU,.string rZ,.bool td,.slice none 0 0,.string (⟨#[]⟩:ByteArray),.string (⟨#[]⟩:ByteArray),.bool false,.slice none 0 0]) ?_ 3 _ rfl;(with_reducible repeat (first|refine aK ?_ _|refine aV ?_|refine aJ ?_ _));refine cj (cs:=#[.int .u8 qU,.string rZ,.bool false,.slice none 0 0,.string (⟨#[]⟩:ByteArray),.string (⟨#[]⟩:ByteArray),.bool false,.slice none 0 0]) ?_ 2 _ rfl;(with_reducible repeat (first|refine aK ?_ _|refine aV ?_|refine aJ ?_ _));refine cj (cs:=#[.int .u8 qU,.string (⟨#[]⟩:ByteArray),.bool false,.slice none 0 0,.string (⟨#[]⟩:ByteArray),.string (⟨#[]⟩:ByteArray),.bool false,.slice none 0 0]) ?_ 1 _ rfl;(with_reducible repeat (first|refine aK ?_ _|refine aV ?_|refine aJ ?_ _));refine cj (cs:=#[.int .u8 0,.string (⟨#[]⟩:ByteArray),.bool false,.slice none 0 0,.string (⟨#[]⟩:ByteArray),.string (⟨#[]⟩:ByteArray),.bool false,.slice none 0 0]) ?_ 0 _ rfl;(with_reducible repeat (first|refine aK ?_ _|refine aV ?_|refine aJ ?_ _));exact fo.out) hb);have jc:=ah.mk (az sX hb);clear l9;clear mg;clear bG;clear fo;clear HB;have l9:=bI;have mg:=bP;have bG:=cw;have fo:=cW;have HB:=jc;clear bI bP cw cW jc;(try clear hb);(try clear hb2);(try clear hk);(try clear hi))|(go_at_call 15;(with_reducible refine (bO.calls zm C6 _ ?bg A95.out).mono ?_);(case bg=>exact aW.below HG.out sX);rintro e atZ ⟨rfl,hb⟩;have bI:=ah.mk (Kd.dA BL hb);have bP:=ah.mk (Kd.dA BM hb);have cw:=ah.mk (aR (g:=cG) (o:= .cells #[.int .u8 aI,.string bh,.bool bn,.slice dn bT.length dw,.string bz,.string bW,.bool bX,.slice dF bw.length dx] 35 (0,0)) kH hb);have cW:=ah.mk (aR (g:=eO) (o:= .cells #[.int .u8 qU,.string rZ,.bool td,.slice DY tj.length BH,.string wB,.string yD,.bool AH,.slice Rl AJ.length MN] 35 (0,0)) (by (with_reducible repeat (first|refine aK ?_ _|refine aV ?_|refine aJ ?_ _));exact fo.out) hb);have jc:=ah.mk (az sX hb);clear l9;clear mg;clear bG;clear fo;clear HB;have l9:=bI;have mg:=bP;have bG:=cw;have fo:=cW;have HB:=jc;clear bI bP cw cW jc;(try clear hb);(try clear hb2);(try clear hk);(try clear hi)))
            go_ret
            exact ⟨cU,sX⟩
           ·replace c94:=Bool.eq_false_iff.mpr c94
            subst c94
            have H1:(some false)=some r:=by rw [if_neg (show ¬ (false=true) by decide)] at H;exact H
            clear H
            have H:=H1
            clear H1
            obtain rfl:=Option.some.inj H
            go_wp2_with (first|((with_reducible refine aT (f:=35) rfl ?_);refine cC (some 90) rfl rfl Tryz.func35 av rfl #[.string (kg ++ (eH.extract ((fT.size:Int):Int).toNat eH.size))] rfl cY ?_;(with_reducible refine (ak.calls zm (kg ++ (eH.extract ((fT.size:Int):Int).toNat eH.size)) qU rZ td tj wB yD AH AJ I1 _ ?bg A90.out).mono ?_);(case bg=>exact aW.below HG.out gu);rintro e at0 ⟨aes,aet,rfl,ho0,oN,hb⟩;refine ⟨_,rfl,?_⟩;have bI:=ah.mk (Kd.gv ho0 (dK gu));have bP:=ah.mk (Kd.gv oN (dK gu));have cw:=ah.mk (aR (g:=cG) (o:= .cells #[.int .u8 aI,.string bh,.bool bn,.slice dn bT.length dw,.string bz,.string bW,.bool bX,.slice dF bw.length dx] 35 (0,0)) kH hb);have cW:=ah.mk (az gu hb);clear bG;clear HB;have l9:=bI;have mg:=bP;have bG:=cw;have HB:=cW;clear bI bP cw cW;(try clear hb);(try clear hb2);(try clear hk);(try clear hi);(try clear ho0);(try clear oN))|((with_reducible refine cK (N:=14) rfl ?_);refine cu ?hg (N:=14) ?hd (cs:=#[.int .u8 0,.string (⟨#[]⟩:ByteArray),.bool false,.slice none 0 0,.string (⟨#[]⟩:ByteArray),.string (⟨#[]⟩:ByteArray),.bool false,.slice none 0 0]) (t:=35) ?hr ?_;(case hd=>rfl);(case hg=>rfl);(case hr=>first|(go_simp;done)|(go_simp;rfl));intro eO hg AP cM hb;have bI:=ah.mk (Kd.dA BL hb);have bP:=ah.mk (Kd.dA BM hb);have cw:=ah.mk (aR (g:=cG) (o:= .cells #[.int .u8 aI,.string bh,.bool bn,.slice dn bT.length dw,.string bz,.string bW,.bool bX,.slice dF bw.length dx] 35 (0,0)) kH hb);have cW:=ah.mk (az gu hb);have jc:=ah.mk (cM);have nv:=ah.mk ((lZ:w.heap.size≤eO));have nI:=ah.mk ((lZ:w.heap.size≤eO));have wD:=ah.mk ((yJ:cG≠eO));have yA:=ah.mk ((yK:eO≠cG));clear l9;clear mg;clear bG;clear HB;have l9:=bI;have mg:=bP;have bG:=cw;have HB:=cW;have fo:=jc;have Yq:=nv;have Rk:=nI;have j5:=wD;have rH:=yA;clear bI bP cw cW jc nv nI wD yA;clear hb cM hg;have apx:=rH.out;have apy:=j5.out;have ahC:AP.cell? ⟨eO,0,none⟩=some (.int .u8 0):=(af fo.out 0).trans rfl;have ahD:AP.cell? ⟨eO,1,none⟩=some (.string (⟨#[]⟩:ByteArray)):=(af fo.out 1).trans rfl;have ahE:AP.cell? ⟨eO,2,none⟩=some (.bool false):=(af fo.out 2).trans rfl;have ahF:AP.cell? ⟨eO,3,none⟩=some (.slice none 0 0):=(af fo.out 3).trans rfl;have ahG:AP.cell? ⟨eO,4,none⟩=some (.string (⟨#[]⟩:ByteArray)):=(af fo.out 4).trans rfl;have ahH:AP.cell? ⟨eO,5,none⟩=some (.string (⟨#[]⟩:ByteArray)):=(af fo.out 5).trans rfl;have ahI:AP.cell? ⟨eO,6,none⟩=some (.bool false):=(af fo.out 6).trans rfl;have ahJ:AP.cell? ⟨eO,7,none⟩=some (.slice none 0 0):=(af fo.out 7).trans rfl;have ahK:=aa fo.out 0;have ahL:=aa fo.out 1;have ahM:=aa fo.out 2;have ahN:=aa fo.out 3;have ahO:=aa fo.out 4;have ahP:=aa fo.out 5;have ahQ:=aa fo.out 6;have ahR:=aa fo.out 7;obtain ⟨Gk,DZ,ahS⟩:=Kd.eB l9.out;subst ahS;obtain ⟨Wc,Rm,ahT⟩:=Kd.eB mg.out;subst ahT;have ahU:AP.cell? ⟨cG,0,none⟩=some (.int .u8 aI):=(af bG.out 0).trans rfl;have ahV:AP.cell? ⟨cG,1,none⟩=some (.string bh):=(af bG.out 1).trans rfl;have ahW:AP.cell? ⟨cG,2,none⟩=some (.bool bn):=(af bG.out 2).trans rfl;have ahX:AP.cell? ⟨cG,3,none⟩=some (.slice dn bT.length dw):=(af bG.out 3).trans rfl;have ahY:AP.cell? ⟨cG,4,none⟩=some (.string bz):=(af bG.out 4).trans rfl;have ahZ:AP.cell? ⟨cG,5,none⟩=some (.string bW):=(af bG.out 5).trans rfl;have ah0:AP.cell? ⟨cG,6,none⟩=some (.bool bX):=(af bG.out 6).trans rfl;have ah1:AP.cell? ⟨cG,7,none⟩=some (.slice dF bw.length dx):=(af bG.out 7).trans rfl;have ah2:=aa bG.out 0;have ah3:=aa bG.out 1;have ah4:=aa bG.out 2;have ah5:=aa bG.out 3;have ah6:=aa bG.out 4;have ah7:=aa bG.out 5;have ah8:=aa bG.out 6;have ah9:=aa bG.out 7)|(go_at_call 36;(with_reducible refine (aZ.calls zm aI bh bn _ _ bT bz bW bX _ _ bw qU rZ td _ _ tj wB yD AH _ _ AJ false _ ?bg ?bY ?eI ?gP ?iV ?zj ?zk ?zl A93.out).mono ?_);(case bg=>exact Kd.dI kV.out sX);(case bY=>exact kW.out);(case eI=>exact Kd.dI lS.out sX);(case gP=>exact oD.out);(case iV=>refine (Kd.fD (e:=9) (base:=w.heap.size) (ok:=fun k_ =>True) (n:=tj.length) (c:=DZ) ?_).2.2;exact Wb);(case zj=>exact (Kd.fD l9.out).2.1);(case zk=>refine (Kd.fD (e:=58) (base:=w.heap.size) (ok:=fun k_ =>True) (n:=AJ.length) (c:=Rm) ?_).2.2;exact Wd);(case zl=>exact (Kd.fD mg.out).2.1);rintro e at1 ⟨rfl,hb⟩;have bI:=ah.mk (Kd.dA Wb hb);have bP:=ah.mk (Kd.dA Wd hb);have cw:=ah.mk (aR (g:=cG) (o:= .cells #[.int .u8 aI,.string bh,.bool bn,.slice dn bT.length dw,.string bz,.string bW,.bool bX,.slice dF bw.length dx] 35 (0,0)) V6 hb);have cW:=ah.mk (aR (g:=eO) (o:= .cells #[.int .u8 qU,.string rZ,.bool td,.slice Gk tj.length DZ,.string wB,.string yD,.bool AH,.slice Wc AJ.length Rm] 35 (0,0)) (by (with_reducible repeat (first|refine aK ?_ _|refine aV ?_|refine aJ ?_ _));refine cj (cs:=#[.int .u8 qU,.string rZ,.bool td,.slice Gk tj.length DZ,.string wB,.string yD,.bool AH,.slice none 0 0]) ?_ 7 _ rfl;(with_reducible repeat (first|refine aK ?_ _|refine aV ?_|refine aJ ?_ _));refine cj (cs:=#[.int .u8 qU,.string rZ,.bool td,.slice Gk tj.length DZ,.string wB,.string yD,.bool false,.slice none 0 0]) ?_ 6 _ rfl;(with_reducible repeat (first|refine aK ?_ _|refine aV ?_|refine aJ ?_ _));refine cj (cs:=#[.int .u8 qU,.string rZ,.bool td,.slice Gk tj.length DZ,.string wB,.string (⟨#[]⟩:ByteArray),.bool false,.slice none 0 0]) ?_ 5 _ rfl;(with_reducible repeat (first|refine aK ?_ _|refine aV ?_|refine aJ ?_ _));refine cj (cs:=#[.int .u8 qU,.string rZ,.bool td,.slice Gk tj.length DZ,.string (⟨#[]⟩:ByteArray),.string (⟨#[]⟩:ByteArray),.bool false,.slice none 0 0]) ?_ 4 _ rfl;(with_reducible repeat (first|refine aK ?_ _|refine aV ?_|refine aJ ?_ _));refine cj (cs:=#[.int .u8 qU,.string rZ,.bool td,.slice none 0 0,.string (⟨#[]⟩:ByteArray),.string (⟨#[]⟩:ByteArray),.bool false,.slice none 0 0]) ?_ 3 _ rfl;(with_reducible repeat (first|refine aK ?_ _|refine aV ?_|refine aJ ?_ _));refine cj (cs:=#[.int .u8 qU,.string rZ,.bool false,.slice none 0 0,.string (⟨#[]⟩:ByteArray),.string (⟨#[]⟩:ByteArray),.bool false,.slice none 0 0]) ?_ 2 _ rfl;(with_reducible repeat (first|refine aK ?_ _|refine aV ?_|refine aJ ?_ _));refine cj (cs:=#[.int .u8 qU,.string (⟨#[]⟩:ByteArray),.bool false,.slice none 0 0,.string (⟨#[]⟩:ByteArray),.string (⟨#[]⟩:ByteArray),.bool false,.slice none 0 0]) ?_ 1 _ rfl;(with_reducible repeat (first|refine aK ?_ _|refine aV ?_|refine aJ ?_ _));refine cj (cs:=#[.int .u8 0,.string (⟨#[]⟩:ByteArray),.bool false,.slice none 0 0,.string (⟨#[]⟩:ByteArray),.string (⟨#[]⟩:ByteArray),.bool false,.slice none 0 0]) ?_ 0 _ rfl;(with_reducible repeat (first|refine aK ?_ _|refine aV ?_|refine aJ ?_ _));exact fo.out) hb);have jc:=ah.mk (az sX hb);clear l9;clear mg;clear bG;clear fo;clear HB;have l9:=bI;have mg:=bP;have bG:=cw;have fo:=cW;have HB:=jc;clear bI bP cw cW jc;(try clear hb);(try clear hb2);(try clear hk);(try clear hi)))
            go_ret
            exact ⟨cU,sX⟩
          ·rw [if_neg C0] at H
           have ahg:(I1 == 0)=false:=beq_eq_false_iff_ne.mpr C0
           have ahh:(I1 != 0)=true:=bne_iff_ne.mpr C0
           obtain rfl:=Option.some.inj H
           go_wp2_with (first|((with_reducible refine aT (f:=35) rfl ?_);refine cC (some 90) rfl rfl Tryz.func35 av rfl #[.string (kg ++ (eH.extract ((fT.size:Int):Int).toNat eH.size))] rfl cY ?_;(with_reducible refine (ak.calls zm (kg ++ (eH.extract ((fT.size:Int):Int).toNat eH.size)) qU rZ td tj wB yD AH AJ I1 _ ?bg A90.out).mono ?_);(case bg=>exact aW.below HG.out gu);rintro e at2 ⟨aes,aet,rfl,ho0,oN,hb⟩;refine ⟨_,rfl,?_⟩;have bI:=ah.mk (Kd.gv ho0 (dK gu));have bP:=ah.mk (Kd.gv oN (dK gu));have cw:=ah.mk (aR (g:=cG) (o:= .cells #[.int .u8 aI,.string bh,.bool bn,.slice dn bT.length dw,.string bz,.string bW,.bool bX,.slice dF bw.length dx] 35 (0,0)) kH hb);have cW:=ah.mk (az gu hb);clear bG;clear HB;have l9:=bI;have mg:=bP;have bG:=cw;have HB:=cW;clear bI bP cw cW;(try clear hb);(try clear hb2);(try clear hk);(try clear hi);(try clear ho0);(try clear oN))|((with_reducible refine cK (N:=14) rfl ?_);refine cu ?hg (N:=14) ?hd (cs:=#[.int .u8 0,.string (⟨#[]⟩:ByteArray),.bool false,.slice none 0 0,.string (⟨#[]⟩:ByteArray),.string (⟨#[]⟩:ByteArray),.bool false,.slice none 0 0]) (t:=35) ?hr ?_;(case hd=>rfl);(case hg=>rfl);(case hr=>first|(go_simp;done)|(go_simp;rfl));intro eO hg Oi cM hb;have bI:=ah.mk (Kd.dA BL hb);have bP:=ah.mk (Kd.dA BM hb);have cw:=ah.mk (aR (g:=cG) (o:= .cells #[.int .u8 aI,.string bh,.bool bn,.slice dn bT.length dw,.string bz,.string bW,.bool bX,.slice dF bw.length dx] 35 (0,0)) kH hb);have cW:=ah.mk (az gu hb);have jc:=ah.mk (cM);have nv:=ah.mk ((lZ:w.heap.size≤eO));have nI:=ah.mk ((lZ:w.heap.size≤eO));have wD:=ah.mk ((yJ:cG≠eO));have yA:=ah.mk ((yK:eO≠cG));clear l9;clear mg;clear bG;clear HB;have l9:=bI;have mg:=bP;have bG:=cw;have HB:=cW;have fo:=jc;have Yq:=nv;have Rk:=nI;have j5:=wD;have rH:=yA;clear bI bP cw cW jc nv nI wD yA;clear hb cM hg;have apz:=rH.out;have apA:=j5.out;have aia:Oi.cell? ⟨eO,0,none⟩=some (.int .u8 0):=(af fo.out 0).trans rfl;have aib:Oi.cell? ⟨eO,1,none⟩=some (.string (⟨#[]⟩:ByteArray)):=(af fo.out 1).trans rfl;have aic:Oi.cell? ⟨eO,2,none⟩=some (.bool false):=(af fo.out 2).trans rfl;have aid:Oi.cell? ⟨eO,3,none⟩=some (.slice none 0 0):=(af fo.out 3).trans rfl;have aie:Oi.cell? ⟨eO,4,none⟩=some (.string (⟨#[]⟩:ByteArray)):=(af fo.out 4).trans rfl;have aif:Oi.cell? ⟨eO,5,none⟩=some (.string (⟨#[]⟩:ByteArray)):=(af fo.out 5).trans rfl;have aih:Oi.cell? ⟨eO,6,none⟩=some (.bool false):=(af fo.out 6).trans rfl;have aii:Oi.cell? ⟨eO,7,none⟩=some (.slice none 0 0):=(af fo.out 7).trans rfl;have aij:=aa fo.out 0;have aik:=aa fo.out 1;have ail:=aa fo.out 2;have aim:=aa fo.out 3;have ain:=aa fo.out 4;have aio:=aa fo.out 5;have aip:=aa fo.out 6;have aiq:=aa fo.out 7;obtain ⟨arY,arZ,air⟩:=Kd.eB l9.out;subst air;obtain ⟨ar0,ar1,ais⟩:=Kd.eB mg.out;subst ais))
           go_ret
           exact ⟨cU,sX⟩
         ·rw [if_neg c91] at H
          have Yo:(((kg ++ (eH.extract ((fT.size:Int):Int).toNat eH.size)).size:Int) == (eH.size:Int))=false:=beq_eq_false_iff_ne.mpr c91
          have Yp:(kg.size + (eH.size - fT.size))=eH.size↔((kg ++ (eH.extract ((fT.size:Int):Int).toNat eH.size)).size:Int)=(eH.size:Int):=by {simp [ByteArray.size_append,ByteArray.size_extract];omega}
          have Hg:((kg.size + (eH.size - fT.size)) == eH.size)=false:=by {have q_ :=Yo;simp only [beq_eq_false_iff_ne,ne_eq] at q_;rw [beq_eq_false_iff_ne];exact fun h=>q_ (Yp.mp h)}
          have ahb:(((kg.size + (eH.size - fT.size)):Nat)=eH.size)=False:=by {have q_ :=Hg;simp only [beq_eq_false_iff_ne,ne_eq] at q_;exact eq_false q_}
          have ahc:(((kg.size:Int) + ((eH.size - fT.size:Nat):Int))=(eH.size:Int))=False:=by {have q_ :=Hg;simp only [beq_eq_false_iff_ne,ne_eq] at q_;exact eq_false (fun h=>q_ aq)}
          have ahd:(((kg.size:Int) + ((eH.size - fT.size:Nat):Int)) == (eH.size:Int))=false:=by {have q_ :=Hg;simp only [beq_eq_false_iff_ne,ne_eq] at q_;rw [beq_eq_false_iff_ne];exact fun h=>q_ aq}
          clear Yp
          have ahe:(((kg ++ (eH.extract ((fT.size:Int):Int).toNat eH.size)).size:Int) != (eH.size:Int))=true:=bne_iff_ne.mpr c91
          have ahf:((kg ++ (eH.extract ((fT.size:Int):Int).toNat eH.size)).size == eH.size)=false:=by first|simpa using c91|(simp at c91 ⊢;omega)
          obtain rfl:=Option.some.inj H
          go_wp2_with (first|((with_reducible refine aT (f:=35) rfl ?_);refine cC (some 90) rfl rfl Tryz.func35 av rfl #[.string (kg ++ (eH.extract ((fT.size:Int):Int).toNat eH.size))] rfl cY ?_;(with_reducible refine (ak.calls zm (kg ++ (eH.extract ((fT.size:Int):Int).toNat eH.size)) qU rZ td tj wB yD AH AJ I1 _ ?bg A90.out).mono ?_);(case bg=>exact aW.below HG.out gu);rintro e at3 ⟨aes,aet,rfl,ho0,oN,hb⟩;refine ⟨_,rfl,?_⟩;have bI:=ah.mk (Kd.gv ho0 (dK gu));have bP:=ah.mk (Kd.gv oN (dK gu));have cw:=ah.mk (aR (g:=cG) (o:= .cells #[.int .u8 aI,.string bh,.bool bn,.slice dn bT.length dw,.string bz,.string bW,.bool bX,.slice dF bw.length dx] 35 (0,0)) kH hb);have cW:=ah.mk (az gu hb);clear bG;clear HB;have l9:=bI;have mg:=bP;have bG:=cw;have HB:=cW;clear bI bP cw cW;(try clear hb);(try clear hb2);(try clear hk);(try clear hi);(try clear ho0);(try clear oN))|((with_reducible refine cK (N:=14) rfl ?_);refine cu ?hg (N:=14) ?hd (cs:=#[.int .u8 0,.string (⟨#[]⟩:ByteArray),.bool false,.slice none 0 0,.string (⟨#[]⟩:ByteArray),.string (⟨#[]⟩:ByteArray),.bool false,.slice none 0 0]) (t:=35) ?hr ?_;(case hd=>rfl);(case hg=>rfl);(case hr=>first|(go_simp;done)|(go_simp;rfl));intro eO hg Oj cM hb;have bI:=ah.mk (Kd.dA BL hb);have bP:=ah.mk (Kd.dA BM hb);have cw:=ah.mk (aR (g:=cG) (o:= .cells #[.int .u8 aI,.string bh,.bool bn,.slice dn bT.length dw,.string bz,.string bW,.bool bX,.slice dF bw.length dx] 35 (0,0)) kH hb);have cW:=ah.mk (az gu hb);have jc:=ah.mk (cM);have nv:=ah.mk ((lZ:w.heap.size≤eO));have nI:=ah.mk ((lZ:w.heap.size≤eO));have wD:=ah.mk ((yJ:cG≠eO));have yA:=ah.mk ((yK:eO≠cG));clear l9;clear mg;clear bG;clear HB;have l9:=bI;have mg:=bP;have bG:=cw;have HB:=cW;have fo:=jc;have Yq:=nv;have Rk:=nI;have j5:=wD;have rH:=yA;clear bI bP cw cW jc nv nI wD yA;clear hb cM hg;have apB:=rH.out;have apC:=j5.out;have ait:Oj.cell? ⟨eO,0,none⟩=some (.int .u8 0):=(af fo.out 0).trans rfl;have aiu:Oj.cell? ⟨eO,1,none⟩=some (.string (⟨#[]⟩:ByteArray)):=(af fo.out 1).trans rfl;have aiv:Oj.cell? ⟨eO,2,none⟩=some (.bool false):=(af fo.out 2).trans rfl;have aiw:Oj.cell? ⟨eO,3,none⟩=some (.slice none 0 0):=(af fo.out 3).trans rfl;have aix:Oj.cell? ⟨eO,4,none⟩=some (.string (⟨#[]⟩:ByteArray)):=(af fo.out 4).trans rfl;have aiy:Oj.cell? ⟨eO,5,none⟩=some (.string (⟨#[]⟩:ByteArray)):=(af fo.out 5).trans rfl;have aiz:Oj.cell? ⟨eO,6,none⟩=some (.bool false):=(af fo.out 6).trans rfl;have aiA:Oj.cell? ⟨eO,7,none⟩=some (.slice none 0 0):=(af fo.out 7).trans rfl;have aiB:=aa fo.out 0;have aiC:=aa fo.out 1;have aiD:=aa fo.out 2;have aiE:=aa fo.out 3;have aiF:=aa fo.out 4;have aiG:=aa fo.out 5;have aiH:=aa fo.out 6;have aiI:=aa fo.out 7;obtain ⟨ar2,ar3,aiJ⟩:=Kd.eB l9.out;subst aiJ;obtain ⟨ar4,ar5,aiK⟩:=Kd.eB mg.out;subst aiK))
          go_ret
          exact ⟨cU,sX⟩
     ·rw [if_neg c10] at H
      exact absurd H bf
    ·rw [if_neg c9] at H
     exact absurd H bf
   ·rw [if_neg c8] at H
    exact absurd H bf
 ·rw [if_neg c4] at H
  have nP:(Oh == 0)=false:=beq_eq_false_iff_ne.mpr c4
  have Bn:(Oh != 0)=true:=bne_iff_ne.mpr c4
  replace H:=Option.bind_eq_some_iff.mp H
  obtain ⟨Og,acF,H⟩:=H
  replace H:(some Og)=some r:=H
  have apD:=ah.mk acF
  clear acF
  obtain rfl:=Option.some.inj H
  go_enter Tryz.func9,Tryz.ntmps9
  go_wp2_with (first|((with_reducible refine cK (N:=2) rfl ?_);refine cu ?hg (N:=2) ?hd (cs:=#[.int .u8 aI,.string bh,.bool bn,.slice dn bT.length dw,.string bz,.string bW,.bool bX,.slice dF bw.length dx]) (t:=35) ?hr ?_;(case hd=>rfl);(case hg=>rfl);(case hr=>first|(go_simp;done)|(go_simp;rfl));intro cG hg Ol cM hb;have bI:=ah.mk (az cA hb);have bP:=ah.mk (cM);have cw:=ah.mk ((dW:w.heap.size≤cG));have cW:=ah.mk ((dW:w.heap.size≤cG));clear HB;have HB:=bI;have bG:=bP;have agU:=cw;have I7:=cW;clear bI bP cw cW;clear hb cM hg;have aiL:Ol.cell? ⟨cG,0,none⟩=some (.int .u8 aI):=(af bG.out 0).trans rfl;have aiM:Ol.cell? ⟨cG,1,none⟩=some (.string bh):=(af bG.out 1).trans rfl;have aiN:Ol.cell? ⟨cG,2,none⟩=some (.bool bn):=(af bG.out 2).trans rfl;have aiO:Ol.cell? ⟨cG,3,none⟩=some (.slice dn bT.length dw):=(af bG.out 3).trans rfl;have aiP:Ol.cell? ⟨cG,4,none⟩=some (.string bz):=(af bG.out 4).trans rfl;have aiQ:Ol.cell? ⟨cG,5,none⟩=some (.string bW):=(af bG.out 5).trans rfl;have aiR:Ol.cell? ⟨cG,6,none⟩=some (.bool bX):=(af bG.out 6).trans rfl;have aiS:Ol.cell? ⟨cG,7,none⟩=some (.slice dF bw.length dx):=(af bG.out 7).trans rfl;have aiT:=aa bG.out 0;have aiU:=aa bG.out 1;have aiV:=aa bG.out 2;have aiW:=aa bG.out 3;have aiX:=aa bG.out 4;have aiY:=aa bG.out 5;have aiZ:=aa bG.out 6;have ai0:=aa bG.out 7)|((with_reducible refine aT (f:=33) rfl ?_);refine cC (some 18) rfl rfl Tryz.func33 av rfl #[.agg #[.int .u8 aI,.string bh,.bool bn,.slice dn bT.length dw,.string bz,.string bW,.bool bX,.slice dF bw.length dx]] rfl cY ?_;(with_reducible refine (gQ.calls k aI bh bn _ _ bT bz bW bX _ _ bw eH Oh _ ?bg ?bY ?eI ?gP ?iV A3.out).mono ?_);(case bg=>repeat (first|exact (Kd.dI kV.out HB.out)|(with_reducible refine Kd.dZ ?_ _)|(with_reducible refine Kd.eo ?_ _)|(with_reducible refine Kd.eZ ?_)));(case bY=>exact kW.out);(case eI=>repeat (first|exact (Kd.dI lS.out HB.out)|(with_reducible refine Kd.dZ ?_ _)|(with_reducible refine Kd.eo ?_ _)|(with_reducible refine Kd.eZ ?_)));(case gP=>exact oD.out);(case iV=>exact aW.below HG.out gu);rintro e at4 ⟨rfl,hb⟩;refine ⟨_,rfl,?_⟩;have bI:=ah.mk (aR (g:=cG) (o:= .cells #[.int .u8 aI,.string bh,.bool bn,.slice dn bT.length dw,.string bz,.string bW,.bool bX,.slice dF bw.length dx] 35 (0,0)) kH hb);have bP:=ah.mk (az gu hb);clear bG;clear HB;have bG:=bI;have HB:=bP;clear bI bP;(try clear hb);(try clear hb2);(try clear hk);(try clear hi))|((with_reducible refine aT (f:=15) rfl ?_);refine cC (some 23) rfl rfl Tryz.func15 av rfl #[] rfl cY ?_;(with_reducible refine (bO.calls k Og _ ?bg apD.out).mono ?_);(case bg=>exact aW.below HG.out gu);rintro e at5 ⟨rfl,hb⟩;refine ⟨_,rfl,?_⟩;have bI:=ah.mk (aR (g:=cG) (o:= .cells #[.int .u8 aI,.string bh,.bool bn,.slice dn bT.length dw,.string bz,.string bW,.bool bX,.slice dF bw.length dx] 35 (0,0)) kH hb);have bP:=ah.mk (az gu hb);clear bG;clear HB;have bG:=bI;have HB:=bP;clear bI bP;(try clear hb);(try clear hb2);(try clear hk);(try clear hi)))
  go_ret
  exact ⟨cU,gu⟩
end Go.Proofs.YtokpnfljjjjikaaGreatDoor.n9
