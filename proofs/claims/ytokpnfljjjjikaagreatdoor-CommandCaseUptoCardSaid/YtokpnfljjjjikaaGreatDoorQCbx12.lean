import Derived.Test.YtokpnfljjjjikaaGreatDoorQCbx2
import Derived.Test.YtokpnfljjjjikaaGreatDoorQCbx11
namespace Go.Proofs.YtokpnfljjjjikaaGreatDoor.n9
open Go.RowKit Go.Proofs.aj.bQ Go.Proofs.aj.gf Go.Proofs.aj.cT
attribute [local go_sem] jt iY kQ kJ iJ iK ju jv
set_option linter.unusedVariables false
set_option linter.unusedSimpArgs false
attribute [local go_sem high] afm
mutual
def aZ.j0:Nat→Bool→Int→ByteArray→Bool→List ByteArray→ByteArray→ByteArray→Bool→List (gI)→Int→ByteArray→Bool→List ByteArray→ByteArray→ByteArray→Bool→List (gI)→Option (Bool)
 | 0,_,_,_,_,_,_,_,_,_,_,_,_,_,_,_,_,_ =>none
 |k + 1,x34,KA,KB,KD,KE,KF,KG,KH,uL,KJ,KL,KM,KN,KO,KP,KQ,xg=>if x34=true then (some false) else (aZ.l0 k (uL.length:Int) 0 KA KB KD KE KF KG KH uL KJ KL KM KN KO KP KQ xg)
def aZ.l0:Nat→Int→Int→Int→ByteArray→Bool→List ByteArray→ByteArray→ByteArray→Bool→List (gI)→Int→ByteArray→Bool→List ByteArray→ByteArray→ByteArray→Bool→List (gI)→Option (Bool)
 | 0,_,_,_,_,_,_,_,_,_,_,_,_,_,_,_,_,_,_ =>none
 |k + 1,x37,WS,KA,KB,KD,KE,KF,KG,KH,uL,KJ,KL,KM,KN,KO,KP,KQ,xg=>if WS < x37 then (if 0≤WS then (if WS < (uL.length:Int) then (if WS < (xg.length:Int) then (if (!((((cv uL WS).f0).toList) == (((cv xg WS).f0).toList)) || (!((((cv uL WS).f1).toList) == (((cv xg WS).f1).toList)) || (!(((cv uL WS).f2) == ((cv xg WS).f2)))))=true then (some false) else (aZ.l0 k x37 (wrap64 (WS + 1)) KA KB KD KE KF KG KH uL KJ KL KM KN KO KP KQ xg)) else (none)) else (none)) else (none)) else (some true)
end
def aZ.f (k:Nat) (aI:Int) (bh:ByteArray) (bn:Bool) (bT:List ByteArray) (bz:ByteArray) (bW:ByteArray) (bX:Bool) (bw:List (gI)) (gh:Int) (jl:ByteArray) (gw:Bool) (iP:List ByteArray) (gy:ByteArray) (jh:ByteArray) (ji:Bool) (gY:List (gI)):Option (Bool):=if aI=gh then (if bh.toList=jl.toList then ((bH.f k bn bT bz bW bX gw iP gy jh ji).bind fun t253=>(if t253=true then (aZ.j0 k ((bw.length:Int) != (gY.length:Int)) aI bh bn bT bz bW bX bw gh jl gw iP gy jh ji gY) else (aZ.j0 k true aI bh bn bT bz bW bX bw gh jl gw iP gy jh ji gY))) else (aZ.j0 k true aI bh bn bT bz bW bX bw gh jl gw iP gy jh ji gY)) else (aZ.j0 k true aI bh bn bT bz bW bX bw gh jl gw iP gy jh ji gY)
theorem aZ.fU:∀ k,(∀ y0 y1 y2 y3 y4 y5 y6 y7 y8 y9 PR WO y12 y13 y14 y15 y16,cN (aZ.j0 k y0 y1 y2 y3 y4 y5 y6 y7 y8 y9 PR WO y12 y13 y14 y15 y16) (aZ.j0 (k + 1) y0 y1 y2 y3 y4 y5 y6 y7 y8 y9 PR WO y12 y13 y14 y15 y16))∧(∀ y0 y1 y2 y3 y4 y5 y6 y7 y8 y9 PR WO y12 y13 y14 y15 y16 y17,cN (aZ.l0 k y0 y1 y2 y3 y4 y5 y6 y7 y8 y9 PR WO y12 y13 y14 y15 y16 y17) (aZ.l0 (k + 1) y0 y1 y2 y3 y4 y5 y6 y7 y8 y9 PR WO y12 y13 y14 y15 y16 y17))
 | 0=>⟨fun _ _ _ _ _ _ _ _ _ _ _ _ _ _ _ _ _ r h=>by simp [aZ.j0] at h,fun _ _ _ _ _ _ _ _ _ _ _ _ _ _ _ _ _ _ r h=>by simp [aZ.l0] at h⟩
 |k + 1=>by
  obtain ⟨oK,ih1⟩:=aZ.fU k
  refine ⟨?_,?_⟩
  ·intro y0 y1 y2 y3 y4 y5 y6 y7 y8 y9 PR WO y12 y13 y14 y15 y16
   unfold aZ.j0
   repeat' first
   |(with_reducible exact oK _ _ _ _ _ _ _ _ _ _ _ _ _ _ _ _ _)
   |(with_reducible exact ih1 _ _ _ _ _ _ _ _ _ _ _ _ _ _ _ _ _ _)
   |(with_reducible exact bH.mono _ _ _ _ _ _ _ _ _ _ _)
   |(with_reducible exact cN.refl _)
   |(with_reducible exact cN.none _)
   |(with_reducible refine cN.ite ?_ ?_)
   |(with_reducible refine cN.bind ?_ (fun _ =>?_))
   |refine cN.ite ?_ ?_
   |refine cN.bind ?_ (fun _ =>?_)
  ·intro y0 y1 y2 y3 y4 y5 y6 y7 y8 y9 PR WO y12 y13 y14 y15 y16 y17
   unfold aZ.l0
   repeat' first
   |(with_reducible exact oK _ _ _ _ _ _ _ _ _ _ _ _ _ _ _ _ _)
   |(with_reducible exact ih1 _ _ _ _ _ _ _ _ _ _ _ _ _ _ _ _ _ _)
   |(with_reducible exact bH.mono _ _ _ _ _ _ _ _ _ _ _)
   |(with_reducible exact cN.refl _)
   |(with_reducible exact cN.none _)
   |(with_reducible refine cN.ite ?_ ?_)
   |(with_reducible refine cN.bind ?_ (fun _ =>?_))
   |refine cN.ite ?_ ?_
   |refine cN.bind ?_ (fun _ =>?_)
theorem aZ.mono:∀ a0 a1 a2 a3 a4 a5 a6 a7 a8 a9 a10 a11 a12 a13 a14 a15 k,cN (aZ.f k a0 a1 a2 a3 a4 a5 a6 a7 a8 a9 a10 a11 a12 a13 a14 a15) (aZ.f (k + 1) a0 a1 a2 a3 a4 a5 a6 a7 a8 a9 a10 a11 a12 a13 a14 a15):=by
 intro a0 a1 a2 a3 a4 a5 a6 a7 a8 a9 a10 a11 a12 a13 a14 a15 k
 obtain ⟨oK,ih1⟩:=aZ.fU k
 unfold aZ.f
 repeat' first
  |(with_reducible exact oK _ _ _ _ _ _ _ _ _ _ _ _ _ _ _ _ _)
  |(with_reducible exact ih1 _ _ _ _ _ _ _ _ _ _ _ _ _ _ _ _ _ _)
  |(with_reducible exact bH.mono _ _ _ _ _ _ _ _ _ _ _)
  |(with_reducible exact cN.refl _)
  |(with_reducible exact cN.none _)
  |(with_reducible refine cN.ite ?_ ?_)
  |(with_reducible refine cN.bind ?_ (fun _ =>?_))
  |refine cN.ite ?_ ?_
  |refine cN.bind ?_ (fun _ =>?_)
set_option maxHeartbeats 8000000 in
set_option maxRecDepth 100000 in
theorem aZ.calls (k:Nat) (aI:Int) (bh:ByteArray) (bn:Bool) (dn:Option Addr) (dw:Nat) (bT:List ByteArray) (bz:ByteArray) (bW:ByteArray) (bX:Bool) (dF:Option Addr) (dx:Nat) (bw:List (gI)) (gh:Int) (jl:ByteArray) (gw:Bool) (oY:Option Addr) (oZ:Nat) (iP:List ByteArray) (gy:ByteArray) (jh:ByteArray) (ji:Bool) (o7:Option Addr) (o8:Nat) (gY:List (gI)) (r:Bool) (w:World) (sw:Kd.C Kd.string w dn bT.length bT) (sx:bT.length≤dw) (sy:Kd.C BC w dF bw.length bw) (sA:bw.length≤dx) (M6:Kd.C Kd.string w oY iP.length iP) (M7:iP.length≤oZ) (M8:Kd.C BC w o7 gY.length gY) (M9:gY.length≤o8) (h:aZ.f k aI bh bn bT bz bW bX bw gh jl gw iP gy jh ji gY=some r):
 Calls Tryz.prog 36 #[.agg #[.int .u8 aI,.string bh,.bool bn,.slice dn bT.length dw,.string bz,.string bW,.bool bX,.slice dF bw.length dx],.agg #[.int .u8 gh,.string jl,.bool gw,.slice oY iP.length oZ,.string gy,.string jh,.bool ji,.slice o7 gY.length o8]] w fun e w'=>e= .returned (.bool r)∧Below w.heap.size w w':=by
 have Na:=Tryz.underlying35
 have M3:=Tryz.underlying32
 have UR:=Tryz.underlying58
 have kV:=ah.mk sw
 have kW:=ah.mk sx
 clear sw sx
 have lS:=ah.mk sy
 have oD:=ah.mk sA
 clear sy sA
 have Ec:=ah.mk M6
 have Ed:=ah.mk M7
 clear M6 M7
 have Sm:=ah.mk M8
 have abR:=ah.mk M9
 clear M8 M9
 have HB:=ah.mk (Below.refl w.heap.size w)
 have H:(if aI=gh then (if bh.toList=jl.toList then ((bH.f k bn bT bz bW bX gw iP gy jh ji).bind fun t253=>(if t253=true then (aZ.j0 k ((bw.length:Int) != (gY.length:Int)) aI bh bn bT bz bW bX bw gh jl gw iP gy jh ji gY) else (aZ.j0 k true aI bh bn bT bz bW bX bw gh jl gw iP gy jh ji gY))) else (aZ.j0 k true aI bh bn bT bz bW bX bw gh jl gw iP gy jh ji gY)) else (aZ.j0 k true aI bh bn bT bz bW bX bw gh jl gw iP gy jh ji gY))=some r:=h
 clear h
 have WQ:=ah.mk H
 clear H
 go_enter Tryz.func36,Tryz.ntmps36
 go_upto_region 1 with (first|((with_reducible refine cK (N:=2) rfl ?_);(try (refine eu (by rfl) ?_;dsimp only));refine cu ?hg (N:=2) ?hd (cs:=#[.int .u8 aI,.string bh,.bool bn,.slice dn bT.length dw,.string bz,.string bW,.bool bX,.slice dF bw.length dx]) (t:=35) ?hr ?_;(case hd=>rfl);(case hg=>rfl);(case hr=>first|(go_simp;done)|(go_simp;rfl));intro dP hg w4 cM hb;have bI:=ah.mk (az cA hb);have bP:=ah.mk (cM);have cw:=ah.mk ((dW:w.heap.size≤dP));have cW:=ah.mk ((dW:w.heap.size≤dP));clear HB;have HB:=bI;have cg:=bP;have abS:=cw;have ML:=cW;clear bI bP cw cW;clear hb cM hg)|((with_reducible refine cK (N:=3) rfl ?_);(try (refine eu (by rfl) ?_;dsimp only));refine cu ?hg (N:=3) ?hd (cs:=#[.int .u8 gh,.string jl,.bool gw,.slice oY iP.length oZ,.string gy,.string jh,.bool ji,.slice o7 gY.length o8]) (t:=35) ?hr ?_;(case hd=>rfl);(case hg=>rfl);(case hr=>first|(go_simp;done)|(go_simp;rfl));intro eD hg w5 cM hb;have bI:=ah.mk (aR (g:=dP) (o:= .cells #[.int .u8 aI,.string bh,.bool bn,.slice dn bT.length dw,.string bz,.string bW,.bool bX,.slice dF bw.length dx] 35 (0,0)) pJ hb);have bP:=ah.mk (az Pr hb);have cw:=ah.mk (cM);have cW:=ah.mk ((Dk:w.heap.size≤eD));have jc:=ah.mk ((Dk:w.heap.size≤eD));have nv:=ah.mk ((Py:dP≠eD));have nI:=ah.mk ((Pz:eD≠dP));clear cg;clear HB;have cg:=bI;have HB:=bP;have cH:=cw;have abT:=cW;have V3:=jc;have oo:=nv;have oq:=nI;clear bI bP cw cW jc nv nI;clear hb cM hg))
 repeat (go_quiet (first|((with_reducible refine cK (N:=2) rfl ?_);(try (refine eu (by rfl) ?_;dsimp only));refine cu ?hg (N:=2) ?hd (cs:=#[.int .u8 aI,.string bh,.bool bn,.slice dn bT.length dw,.string bz,.string bW,.bool bX,.slice dF bw.length dx]) (t:=35) ?hr ?_;(case hd=>rfl);(case hg=>rfl);(case hr=>first|(go_simp;done)|(go_simp;rfl));intro dP hg w4 cM hb;have bI:=ah.mk (az cA hb);have bP:=ah.mk (cM);have cw:=ah.mk ((dW:w.heap.size≤dP));have cW:=ah.mk ((dW:w.heap.size≤dP));clear HB;have HB:=bI;have cg:=bP;have abS:=cw;have ML:=cW;clear bI bP cw cW;clear hb cM hg)|((with_reducible refine cK (N:=3) rfl ?_);(try (refine eu (by rfl) ?_;dsimp only));refine cu ?hg (N:=3) ?hd (cs:=#[.int .u8 gh,.string jl,.bool gw,.slice oY iP.length oZ,.string gy,.string jh,.bool ji,.slice o7 gY.length o8]) (t:=35) ?hr ?_;(case hd=>rfl);(case hg=>rfl);(case hr=>first|(go_simp;done)|(go_simp;rfl));intro eD hg w5 cM hb;have bI:=ah.mk (aR (g:=dP) (o:= .cells #[.int .u8 aI,.string bh,.bool bn,.slice dn bT.length dw,.string bz,.string bW,.bool bX,.slice dF bw.length dx] 35 (0,0)) pJ hb);have bP:=ah.mk (az Pr hb);have cw:=ah.mk (cM);have cW:=ah.mk ((Dk:w.heap.size≤eD));have jc:=ah.mk ((Dk:w.heap.size≤eD));have nv:=ah.mk ((Py:dP≠eD));have nI:=ah.mk ((Pz:eD≠dP));clear cg;clear HB;have cg:=bI;have HB:=bP;have cH:=cw;have abT:=cW;have V3:=jc;have oo:=nv;have oq:=nI;clear bI bP cw cW jc nv nI;clear hb cM hg));go_upto_region 1 with (first|((with_reducible refine cK (N:=2) rfl ?_);(try (refine eu (by rfl) ?_;dsimp only));refine cu ?hg (N:=2) ?hd (cs:=#[.int .u8 aI,.string bh,.bool bn,.slice dn bT.length dw,.string bz,.string bW,.bool bX,.slice dF bw.length dx]) (t:=35) ?hr ?_;(case hd=>rfl);(case hg=>rfl);(case hr=>first|(go_simp;done)|(go_simp;rfl));intro dP hg w4 cM hb;have bI:=ah.mk (az cA hb);have bP:=ah.mk (cM);have cw:=ah.mk ((dW:w.heap.size≤dP));have cW:=ah.mk ((dW:w.heap.size≤dP));clear HB;have HB:=bI;have cg:=bP;have abS:=cw;have ML:=cW;clear bI bP cw cW;clear hb cM hg)|((with_reducible refine cK (N:=3) rfl ?_);(try (refine eu (by rfl) ?_;dsimp only));refine cu ?hg (N:=3) ?hd (cs:=#[.int .u8 gh,.string jl,.bool gw,.slice oY iP.length oZ,.string gy,.string jh,.bool ji,.slice o7 gY.length o8]) (t:=35) ?hr ?_;(case hd=>rfl);(case hg=>rfl);(case hr=>first|(go_simp;done)|(go_simp;rfl));intro eD hg w5 cM hb;have bI:=ah.mk (aR (g:=dP) (o:= .cells #[.int .u8 aI,.string bh,.bool bn,.slice dn bT.length dw,.string bz,.string bW,.bool bX,.slice dF bw.length dx] 35 (0,0)) pJ hb);have bP:=ah.mk (az Pr hb);have cw:=ah.mk (cM);have cW:=ah.mk ((Dk:w.heap.size≤eD));have jc:=ah.mk ((Dk:w.heap.size≤eD));have nv:=ah.mk ((Py:dP≠eD));have nI:=ah.mk ((Pz:eD≠dP));clear cg;clear HB;have cg:=bI;have HB:=bP;have cH:=cw;have abT:=cW;have V3:=jc;have oo:=nv;have oq:=nI;clear bI bP cw cW jc nv nI;clear hb cM hg)))
 (try simp only [Act.put,List.setIfInBounds_toArray,List.set_cons_zero,List.set_cons_succ])
 go_cut [34] (fun v34 wc=>∃ (kq:Nat) (Sn:Bool),v34= .bool Sn∧ah (aZ.j0 kq Sn aI bh bn bT bz bW bX bw gh jl gw iP gy jh ji gY=some r)∧ah (kq≤k)∧ah (wc.heap[dP]? =some (.cells #[.int .u8 aI,.string bh,.bool bn,(.slice dn bT.length dw),.string bz,.string bW,.bool bX,(.slice dF bw.length dx)] 35 (0,0)))∧ah (wc.heap[eD]? =some (.cells #[.int .u8 gh,.string jl,.bool gw,(.slice oY iP.length oZ),.string gy,.string jh,.bool ji,(.slice o7 gY.length o8)] 35 (0,0)))∧ah (Below w.heap.size w wc))
 case first=>
  have H:=WQ.out
  clear WQ
  by_cases c6:aI=gh
  ·rw [if_pos c6] at H
   have oW:(aI == gh)=true:=beq_iff_eq.mpr c6
   have yS:(aI != gh)=false:=bne_eq_false_iff_eq.mpr c6
   clear c6
   (first|rw [oW]|(simp only [cS,cV];rw [oW])|skip)
   by_cases c7:bh.toList=jl.toList
   ·rw [if_pos c7] at H
    have Nb:(bh.toList == jl.toList)=true:=beq_iff_eq.mpr c7
    have WT:(bh.toList != jl.toList)=false:=bne_eq_false_iff_eq.mpr c7
    clear c7
    replace H:=Option.bind_eq_some_iff.mp H
    obtain ⟨t253,A80,H⟩:=H
    replace H:(if t253=true then (aZ.j0 k ((bw.length:Int) != (gY.length:Int)) aI bh bn bT bz bW bX bw gh jl gw iP gy jh ji gY) else (aZ.j0 k true aI bh bn bT bz bW bX bw gh jl gw iP gy jh ji gY))=some r:=H
    have A8:=ah.mk A80
    clear A80
    by_cases c9:t253=true
    ·subst c9
     have H1:(aZ.j0 k ((bw.length:Int) != (gY.length:Int)) aI bh bn bT bz bW bX bw gh jl gw iP gy jh ji gY)=some r:=by rw [if_pos rfl] at H;exact H
     clear H
     have H:=H1
     clear H1
     have H':=ah.mk H
     clear H
     have afr:=oo.out
     have afs:=oq.out
     have uM:w5.cell? ⟨dP,0,none⟩=some (.int .u8 aI):=(af cg.out 0).trans rfl
     have uN:w5.cell? ⟨dP,1,none⟩=some (.string bh):=(af cg.out 1).trans rfl
     have uO:w5.cell? ⟨dP,2,none⟩=some (.bool bn):=(af cg.out 2).trans rfl
     have zR:w5.cell? ⟨dP,3,none⟩=some (.slice dn bT.length dw):=(af cg.out 3).trans rfl
     have zS:w5.cell? ⟨dP,4,none⟩=some (.string bz):=(af cg.out 4).trans rfl
     have Cc:w5.cell? ⟨dP,5,none⟩=some (.string bW):=(af cg.out 5).trans rfl
     have Ce:w5.cell? ⟨dP,6,none⟩=some (.bool bX):=(af cg.out 6).trans rfl
     have Cf:w5.cell? ⟨dP,7,none⟩=some (.slice dF bw.length dx):=(af cg.out 7).trans rfl
     have uP:=aa cg.out 0
     have uQ:=aa cg.out 1
     have uR:=aa cg.out 2
     have zT:=aa cg.out 3
     have zU:=aa cg.out 4
     have Cg:=aa cg.out 5
     have Ch:=aa cg.out 6
     have Ci:=aa cg.out 7
     have wW:w5.cell? ⟨eD,0,none⟩=some (.int .u8 gh):=(af cH.out 0).trans rfl
     have wX:w5.cell? ⟨eD,1,none⟩=some (.string jl):=(af cH.out 1).trans rfl
     have zP:w5.cell? ⟨eD,2,none⟩=some (.bool gw):=(af cH.out 2).trans rfl
     have B0:w5.cell? ⟨eD,3,none⟩=some (.slice oY iP.length oZ):=(af cH.out 3).trans rfl
     have B6:w5.cell? ⟨eD,4,none⟩=some (.string gy):=(af cH.out 4).trans rfl
     have Sp:w5.cell? ⟨eD,5,none⟩=some (.string jh):=(af cH.out 5).trans rfl
     have Sq:w5.cell? ⟨eD,6,none⟩=some (.bool ji):=(af cH.out 6).trans rfl
     have Sr:w5.cell? ⟨eD,7,none⟩=some (.slice o7 gY.length o8):=(af cH.out 7).trans rfl
     have wY:=aa cH.out 0
     have wZ:=aa cH.out 1
     have zQ:=aa cH.out 2
     have Ca:=aa cH.out 3
     have Cb:=aa cH.out 4
     have Ss:=aa cH.out 5
     have Su:=aa cH.out 6
     have Sv:=aa cH.out 7
     go_wp2_with (first|(go_at_call 18;(with_reducible refine (bH.calls k bn _ _ bT bz bW bX gw _ _ iP gy jh ji true _ ?bg ?bY ?eI ?gP A8.out).mono ?_);(case bg=>repeat (first|exact (Kd.dI kV.out HB.out)|(with_reducible refine Kd.dZ ?_ _)|(with_reducible refine Kd.eo ?_ _)|(with_reducible refine Kd.eZ ?_)));(case bY=>exact kW.out);(case eI=>repeat (first|exact (Kd.dI Ec.out HB.out)|(with_reducible refine Kd.dZ ?_ _)|(with_reducible refine Kd.eo ?_ _)|(with_reducible refine Kd.eZ ?_)));(case gP=>exact Ed.out);rintro e n7 ⟨rfl,hb⟩;have bI:=ah.mk (aR (g:=dP) (o:= .cells #[.int .u8 aI,.string bh,.bool bn,.slice dn bT.length dw,.string bz,.string bW,.bool bX,.slice dF bw.length dx] 35 (0,0)) pJ hb);have bP:=ah.mk (aR (g:=eD) (o:= .cells #[.int .u8 gh,.string jl,.bool gw,.slice oY iP.length oZ,.string gy,.string jh,.bool ji,.slice o7 gY.length o8] 35 (0,0)) sY hb);have cw:=ah.mk (az pI hb);clear cg;clear cH;clear HB;have cg:=bI;have cH:=bP;have HB:=cw;clear bI bP cw;(try clear hb);(try clear hb2);(try clear hk);(try clear hi);have uS:n7.cell? ⟨dP,0,none⟩=some (.int .u8 aI):=(af cg.out 0).trans rfl;have uT:n7.cell? ⟨dP,1,none⟩=some (.string bh):=(af cg.out 1).trans rfl;have xh:n7.cell? ⟨dP,2,none⟩=some (.bool bn):=(af cg.out 2).trans rfl;have xj:n7.cell? ⟨dP,3,none⟩=some (.slice dn bT.length dw):=(af cg.out 3).trans rfl;have xk:n7.cell? ⟨dP,4,none⟩=some (.string bz):=(af cg.out 4).trans rfl;have xm:n7.cell? ⟨dP,5,none⟩=some (.string bW):=(af cg.out 5).trans rfl;have xp:n7.cell? ⟨dP,6,none⟩=some (.bool bX):=(af cg.out 6).trans rfl;have xq:n7.cell? ⟨dP,7,none⟩=some (.slice dF bw.length dx):=(af cg.out 7).trans rfl;have uU:=aa cg.out 0;have uV:=aa cg.out 1;have xu:=aa cg.out 2;have xw:=aa cg.out 3;have xx:=aa cg.out 4;have xy:=aa cg.out 5;have xz:=aa cg.out 6;have xA:=aa cg.out 7;have qj:n7.cell? ⟨eD,0,none⟩=some (.int .u8 gh):=(af cH.out 0).trans rfl;have qm:n7.cell? ⟨eD,1,none⟩=some (.string jl):=(af cH.out 1).trans rfl;have qo:n7.cell? ⟨eD,2,none⟩=some (.bool gw):=(af cH.out 2).trans rfl;have qp:n7.cell? ⟨eD,3,none⟩=some (.slice oY iP.length oZ):=(af cH.out 3).trans rfl;have qq:n7.cell? ⟨eD,4,none⟩=some (.string gy):=(af cH.out 4).trans rfl;have uW:n7.cell? ⟨eD,5,none⟩=some (.string jh):=(af cH.out 5).trans rfl;have uX:n7.cell? ⟨eD,6,none⟩=some (.bool ji):=(af cH.out 6).trans rfl;have uY:n7.cell? ⟨eD,7,none⟩=some (.slice o7 gY.length o8):=(af cH.out 7).trans rfl;have qu:=aa cH.out 0;have qw:=aa cH.out 1;have qx:=aa cH.out 2;have qy:=aa cH.out 3;have qz:=aa cH.out 4;have uZ:=aa cH.out 5;have u5:=aa cH.out 6;have u7:=aa cH.out 7))
     repeat (go_quiet (first|(go_at_call 18;(with_reducible refine (bH.calls k bn _ _ bT bz bW bX gw _ _ iP gy jh ji true _ ?bg ?bY ?eI ?gP A8.out).mono ?_);(case bg=>repeat (first|exact (Kd.dI kV.out HB.out)|(with_reducible refine Kd.dZ ?_ _)|(with_reducible refine Kd.eo ?_ _)|(with_reducible refine Kd.eZ ?_)));(case bY=>exact kW.out);(case eI=>repeat (first|exact (Kd.dI Ec.out HB.out)|(with_reducible refine Kd.dZ ?_ _)|(with_reducible refine Kd.eo ?_ _)|(with_reducible refine Kd.eZ ?_)));(case gP=>exact Ed.out);rintro e n7 ⟨rfl,hb⟩;have bI:=ah.mk (aR (g:=dP) (o:= .cells #[.int .u8 aI,.string bh,.bool bn,.slice dn bT.length dw,.string bz,.string bW,.bool bX,.slice dF bw.length dx] 35 (0,0)) pJ hb);have bP:=ah.mk (aR (g:=eD) (o:= .cells #[.int .u8 gh,.string jl,.bool gw,.slice oY iP.length oZ,.string gy,.string jh,.bool ji,.slice o7 gY.length o8] 35 (0,0)) sY hb);have cw:=ah.mk (az pI hb);clear cg;clear cH;clear HB;have cg:=bI;have cH:=bP;have HB:=cw;clear bI bP cw;(try clear hb);(try clear hb2);(try clear hk);(try clear hi);have uS:n7.cell? ⟨dP,0,none⟩=some (.int .u8 aI):=(af cg.out 0).trans rfl;have uT:n7.cell? ⟨dP,1,none⟩=some (.string bh):=(af cg.out 1).trans rfl;have xh:n7.cell? ⟨dP,2,none⟩=some (.bool bn):=(af cg.out 2).trans rfl;have xj:n7.cell? ⟨dP,3,none⟩=some (.slice dn bT.length dw):=(af cg.out 3).trans rfl;have xk:n7.cell? ⟨dP,4,none⟩=some (.string bz):=(af cg.out 4).trans rfl;have xm:n7.cell? ⟨dP,5,none⟩=some (.string bW):=(af cg.out 5).trans rfl;have xp:n7.cell? ⟨dP,6,none⟩=some (.bool bX):=(af cg.out 6).trans rfl;have xq:n7.cell? ⟨dP,7,none⟩=some (.slice dF bw.length dx):=(af cg.out 7).trans rfl;have uU:=aa cg.out 0;have uV:=aa cg.out 1;have xu:=aa cg.out 2;have xw:=aa cg.out 3;have xx:=aa cg.out 4;have xy:=aa cg.out 5;have xz:=aa cg.out 6;have xA:=aa cg.out 7;have qj:n7.cell? ⟨eD,0,none⟩=some (.int .u8 gh):=(af cH.out 0).trans rfl;have qm:n7.cell? ⟨eD,1,none⟩=some (.string jl):=(af cH.out 1).trans rfl;have qo:n7.cell? ⟨eD,2,none⟩=some (.bool gw):=(af cH.out 2).trans rfl;have qp:n7.cell? ⟨eD,3,none⟩=some (.slice oY iP.length oZ):=(af cH.out 3).trans rfl;have qq:n7.cell? ⟨eD,4,none⟩=some (.string gy):=(af cH.out 4).trans rfl;have uW:n7.cell? ⟨eD,5,none⟩=some (.string jh):=(af cH.out 5).trans rfl;have uX:n7.cell? ⟨eD,6,none⟩=some (.bool ji):=(af cH.out 6).trans rfl;have uY:n7.cell? ⟨eD,7,none⟩=some (.slice o7 gY.length o8):=(af cH.out 7).trans rfl;have qu:=aa cH.out 0;have qw:=aa cH.out 1;have qx:=aa cH.out 2;have qy:=aa cH.out 3;have qz:=aa cH.out 4;have uZ:=aa cH.out 5;have u5:=aa cH.out 6;have u7:=aa cH.out 7));try go_wp2_with (first|(go_at_call 18;(with_reducible refine (bH.calls k bn _ _ bT bz bW bX gw _ _ iP gy jh ji true _ ?bg ?bY ?eI ?gP A8.out).mono ?_);(case bg=>repeat (first|exact (Kd.dI kV.out HB.out)|(with_reducible refine Kd.dZ ?_ _)|(with_reducible refine Kd.eo ?_ _)|(with_reducible refine Kd.eZ ?_)));(case bY=>exact kW.out);(case eI=>repeat (first|exact (Kd.dI Ec.out HB.out)|(with_reducible refine Kd.dZ ?_ _)|(with_reducible refine Kd.eo ?_ _)|(with_reducible refine Kd.eZ ?_)));(case gP=>exact Ed.out);rintro e n7 ⟨rfl,hb⟩;have bI:=ah.mk (aR (g:=dP) (o:= .cells #[.int .u8 aI,.string bh,.bool bn,.slice dn bT.length dw,.string bz,.string bW,.bool bX,.slice dF bw.length dx] 35 (0,0)) pJ hb);have bP:=ah.mk (aR (g:=eD) (o:= .cells #[.int .u8 gh,.string jl,.bool gw,.slice oY iP.length oZ,.string gy,.string jh,.bool ji,.slice o7 gY.length o8] 35 (0,0)) sY hb);have cw:=ah.mk (az pI hb);clear cg;clear cH;clear HB;have cg:=bI;have cH:=bP;have HB:=cw;clear bI bP cw;(try clear hb);(try clear hb2);(try clear hk);(try clear hi);have uS:n7.cell? ⟨dP,0,none⟩=some (.int .u8 aI):=(af cg.out 0).trans rfl;have uT:n7.cell? ⟨dP,1,none⟩=some (.string bh):=(af cg.out 1).trans rfl;have xh:n7.cell? ⟨dP,2,none⟩=some (.bool bn):=(af cg.out 2).trans rfl;have xj:n7.cell? ⟨dP,3,none⟩=some (.slice dn bT.length dw):=(af cg.out 3).trans rfl;have xk:n7.cell? ⟨dP,4,none⟩=some (.string bz):=(af cg.out 4).trans rfl;have xm:n7.cell? ⟨dP,5,none⟩=some (.string bW):=(af cg.out 5).trans rfl;have xp:n7.cell? ⟨dP,6,none⟩=some (.bool bX):=(af cg.out 6).trans rfl;have xq:n7.cell? ⟨dP,7,none⟩=some (.slice dF bw.length dx):=(af cg.out 7).trans rfl;have uU:=aa cg.out 0;have uV:=aa cg.out 1;have xu:=aa cg.out 2;have xw:=aa cg.out 3;have xx:=aa cg.out 4;have xy:=aa cg.out 5;have xz:=aa cg.out 6;have xA:=aa cg.out 7;have qj:n7.cell? ⟨eD,0,none⟩=some (.int .u8 gh):=(af cH.out 0).trans rfl;have qm:n7.cell? ⟨eD,1,none⟩=some (.string jl):=(af cH.out 1).trans rfl;have qo:n7.cell? ⟨eD,2,none⟩=some (.bool gw):=(af cH.out 2).trans rfl;have qp:n7.cell? ⟨eD,3,none⟩=some (.slice oY iP.length oZ):=(af cH.out 3).trans rfl;have qq:n7.cell? ⟨eD,4,none⟩=some (.string gy):=(af cH.out 4).trans rfl;have uW:n7.cell? ⟨eD,5,none⟩=some (.string jh):=(af cH.out 5).trans rfl;have uX:n7.cell? ⟨eD,6,none⟩=some (.bool ji):=(af cH.out 6).trans rfl;have uY:n7.cell? ⟨eD,7,none⟩=some (.slice o7 gY.length o8):=(af cH.out 7).trans rfl;have qu:=aa cH.out 0;have qw:=aa cH.out 1;have qx:=aa cH.out 2;have qy:=aa cH.out 3;have qz:=aa cH.out 4;have uZ:=aa cH.out 5;have u5:=aa cH.out 6;have u7:=aa cH.out 7)))
     go_meet
     case rel=>exact ⟨_,(((bw.length:Int) != (gY.length:Int))),dL,H',⟨nB⟩,⟨pJ⟩,⟨sY⟩,⟨pI⟩⟩
    ·replace c9:=Bool.eq_false_iff.mpr c9
     subst c9
     have H1:(aZ.j0 k true aI bh bn bT bz bW bX bw gh jl gw iP gy jh ji gY)=some r:=by rw [if_neg (show ¬ (false=true) by decide)] at H;exact H
     clear H
     have H:=H1
     clear H1
     have H':=ah.mk H
     clear H
     have ap6:=oo.out
     have ap7:=oq.out
     have u9:w5.cell? ⟨dP,0,none⟩=some (.int .u8 aI):=(af cg.out 0).trans rfl
     have vk:w5.cell? ⟨dP,1,none⟩=some (.string bh):=(af cg.out 1).trans rfl
     have Cj:w5.cell? ⟨dP,2,none⟩=some (.bool bn):=(af cg.out 2).trans rfl
     have KR:w5.cell? ⟨dP,3,none⟩=some (.slice dn bT.length dw):=(af cg.out 3).trans rfl
     have KS:w5.cell? ⟨dP,4,none⟩=some (.string bz):=(af cg.out 4).trans rfl
     have KU:w5.cell? ⟨dP,5,none⟩=some (.string bW):=(af cg.out 5).trans rfl
     have KV:w5.cell? ⟨dP,6,none⟩=some (.bool bX):=(af cg.out 6).trans rfl
     have KW:w5.cell? ⟨dP,7,none⟩=some (.slice dF bw.length dx):=(af cg.out 7).trans rfl
     have vo:=aa cg.out 0
     have vq:=aa cg.out 1
     have Ck:=aa cg.out 2
     have KX:=aa cg.out 3
     have KY:=aa cg.out 4
     have KZ:=aa cg.out 5
     have K2:=aa cg.out 6
     have K3:=aa cg.out 7
     have zV:w5.cell? ⟨eD,0,none⟩=some (.int .u8 gh):=(af cH.out 0).trans rfl
     have zW:w5.cell? ⟨eD,1,none⟩=some (.string jl):=(af cH.out 1).trans rfl
     have Cl:w5.cell? ⟨eD,2,none⟩=some (.bool gw):=(af cH.out 2).trans rfl
     have K4:w5.cell? ⟨eD,3,none⟩=some (.slice oY iP.length oZ):=(af cH.out 3).trans rfl
     have K5:w5.cell? ⟨eD,4,none⟩=some (.string gy):=(af cH.out 4).trans rfl
     have Sw:w5.cell? ⟨eD,5,none⟩=some (.string jh):=(af cH.out 5).trans rfl
     have Sy:w5.cell? ⟨eD,6,none⟩=some (.bool ji):=(af cH.out 6).trans rfl
     have Sz:w5.cell? ⟨eD,7,none⟩=some (.slice o7 gY.length o8):=(af cH.out 7).trans rfl
     have zX:=aa cH.out 0
     have zY:=aa cH.out 1
     have Cm:=aa cH.out 2
     have K6:=aa cH.out 3
     have K7:=aa cH.out 4
     have SA:=aa cH.out 5
     have SB:=aa cH.out 6
     have SC:=aa cH.out 7
     go_wp2_with (first|(go_at_call 18;(with_reducible refine (bH.calls k bn _ _ bT bz bW bX gw _ _ iP gy jh ji false _ ?bg ?bY ?eI ?gP A8.out).mono ?_);(case bg=>repeat (first|exact (Kd.dI kV.out HB.out)|(with_reducible refine Kd.dZ ?_ _)|(with_reducible refine Kd.eo ?_ _)|(with_reducible refine Kd.eZ ?_)));(case bY=>exact kW.out);(case eI=>repeat (first|exact (Kd.dI Ec.out HB.out)|(with_reducible refine Kd.dZ ?_ _)|(with_reducible refine Kd.eo ?_ _)|(with_reducible refine Kd.eZ ?_)));(case gP=>exact Ed.out);rintro e Pg ⟨rfl,hb⟩;have bI:=ah.mk (aR (g:=dP) (o:= .cells #[.int .u8 aI,.string bh,.bool bn,.slice dn bT.length dw,.string bz,.string bW,.bool bX,.slice dF bw.length dx] 35 (0,0)) pJ hb);have bP:=ah.mk (aR (g:=eD) (o:= .cells #[.int .u8 gh,.string jl,.bool gw,.slice oY iP.length oZ,.string gy,.string jh,.bool ji,.slice o7 gY.length o8] 35 (0,0)) sY hb);have cw:=ah.mk (az pI hb);clear cg;clear cH;clear HB;have cg:=bI;have cH:=bP;have HB:=cw;clear bI bP cw;(try clear hb);(try clear hb2);(try clear hk);(try clear hi)))
     repeat (go_quiet (first|(go_at_call 18;(with_reducible refine (bH.calls k bn _ _ bT bz bW bX gw _ _ iP gy jh ji false _ ?bg ?bY ?eI ?gP A8.out).mono ?_);(case bg=>repeat (first|exact (Kd.dI kV.out HB.out)|(with_reducible refine Kd.dZ ?_ _)|(with_reducible refine Kd.eo ?_ _)|(with_reducible refine Kd.eZ ?_)));(case bY=>exact kW.out);(case eI=>repeat (first|exact (Kd.dI Ec.out HB.out)|(with_reducible refine Kd.dZ ?_ _)|(with_reducible refine Kd.eo ?_ _)|(with_reducible refine Kd.eZ ?_)));(case gP=>exact Ed.out);rintro e Pg ⟨rfl,hb⟩;have bI:=ah.mk (aR (g:=dP) (o:= .cells #[.int .u8 aI,.string bh,.bool bn,.slice dn bT.length dw,.string bz,.string bW,.bool bX,.slice dF bw.length dx] 35 (0,0)) pJ hb);have bP:=ah.mk (aR (g:=eD) (o:= .cells #[.int .u8 gh,.string jl,.bool gw,.slice oY iP.length oZ,.string gy,.string jh,.bool ji,.slice o7 gY.length o8] 35 (0,0)) sY hb);have cw:=ah.mk (az pI hb);clear cg;clear cH;clear HB;have cg:=bI;have cH:=bP;have HB:=cw;clear bI bP cw;(try clear hb);(try clear hb2);(try clear hk);(try clear hi)));try go_wp2_with (first|(go_at_call 18;(with_reducible refine (bH.calls k bn _ _ bT bz bW bX gw _ _ iP gy jh ji false _ ?bg ?bY ?eI ?gP A8.out).mono ?_);(case bg=>repeat (first|exact (Kd.dI kV.out HB.out)|(with_reducible refine Kd.dZ ?_ _)|(with_reducible refine Kd.eo ?_ _)|(with_reducible refine Kd.eZ ?_)));(case bY=>exact kW.out);(case eI=>repeat (first|exact (Kd.dI Ec.out HB.out)|(with_reducible refine Kd.dZ ?_ _)|(with_reducible refine Kd.eo ?_ _)|(with_reducible refine Kd.eZ ?_)));(case gP=>exact Ed.out);rintro e Pg ⟨rfl,hb⟩;have bI:=ah.mk (aR (g:=dP) (o:= .cells #[.int .u8 aI,.string bh,.bool bn,.slice dn bT.length dw,.string bz,.string bW,.bool bX,.slice dF bw.length dx] 35 (0,0)) pJ hb);have bP:=ah.mk (aR (g:=eD) (o:= .cells #[.int .u8 gh,.string jl,.bool gw,.slice oY iP.length oZ,.string gy,.string jh,.bool ji,.slice o7 gY.length o8] 35 (0,0)) sY hb);have cw:=ah.mk (az pI hb);clear cg;clear cH;clear HB;have cg:=bI;have cH:=bP;have HB:=cw;clear bI bP cw;(try clear hb);(try clear hb2);(try clear hk);(try clear hi))))
     go_meet
     case rel=>exact ⟨_,(true),dL,H',⟨nB⟩,⟨pJ⟩,⟨sY⟩,⟨pI⟩⟩
   ·rw [if_neg c7] at H
    have Nb:(bh.toList == jl.toList)=false:=beq_eq_false_iff_ne.mpr c7
    have WT:(bh.toList != jl.toList)=true:=bne_iff_ne.mpr c7
    have H':=ah.mk H
    clear H
    have ap8:=oo.out
    have ap9:=oq.out
    have rL:w5.cell? ⟨dP,0,none⟩=some (.int .u8 aI):=(af cg.out 0).trans rfl
    have rM:w5.cell? ⟨dP,1,none⟩=some (.string bh):=(af cg.out 1).trans rfl
    have rN:w5.cell? ⟨dP,2,none⟩=some (.bool bn):=(af cg.out 2).trans rfl
    have vv:w5.cell? ⟨dP,3,none⟩=some (.slice dn bT.length dw):=(af cg.out 3).trans rfl
    have vw:w5.cell? ⟨dP,4,none⟩=some (.string bz):=(af cg.out 4).trans rfl
    have xB:w5.cell? ⟨dP,5,none⟩=some (.string bW):=(af cg.out 5).trans rfl
    have xC:w5.cell? ⟨dP,6,none⟩=some (.bool bX):=(af cg.out 6).trans rfl
    have xD:w5.cell? ⟨dP,7,none⟩=some (.slice dF bw.length dx):=(af cg.out 7).trans rfl
    have rO:=aa cg.out 0
    have rP:=aa cg.out 1
    have rQ:=aa cg.out 2
    have vA:=aa cg.out 3
    have vB:=aa cg.out 4
    have xE:=aa cg.out 5
    have xG:=aa cg.out 6
    have xH:=aa cg.out 7
    have zZ:w5.cell? ⟨eD,0,none⟩=some (.int .u8 gh):=(af cH.out 0).trans rfl
    have z6:w5.cell? ⟨eD,1,none⟩=some (.string jl):=(af cH.out 1).trans rfl
    have Cn:w5.cell? ⟨eD,2,none⟩=some (.bool gw):=(af cH.out 2).trans rfl
    have K8:w5.cell? ⟨eD,3,none⟩=some (.slice oY iP.length oZ):=(af cH.out 3).trans rfl
    have K9:w5.cell? ⟨eD,4,none⟩=some (.string gy):=(af cH.out 4).trans rfl
    have SD:w5.cell? ⟨eD,5,none⟩=some (.string jh):=(af cH.out 5).trans rfl
    have SE:w5.cell? ⟨eD,6,none⟩=some (.bool ji):=(af cH.out 6).trans rfl
    have SF:w5.cell? ⟨eD,7,none⟩=some (.slice o7 gY.length o8):=(af cH.out 7).trans rfl
    have z7:=aa cH.out 0
    have z8:=aa cH.out 1
    have Co:=aa cH.out 2
    have La:=aa cH.out 3
    have Lb:=aa cH.out 4
    have SG:=aa cH.out 5
    have SH:=aa cH.out 6
    have SI:=aa cH.out 7
    go_wp2
    repeat (go_quiet (fail);try go_wp2)
    go_meet
    case rel=>exact ⟨_,(true),dL,H',⟨nB⟩,⟨pJ⟩,⟨sY⟩,⟨pI⟩⟩
  ·rw [if_neg c6] at H
   have oW:(aI == gh)=false:=beq_eq_false_iff_ne.mpr c6
   have yS:(aI != gh)=true:=bne_iff_ne.mpr c6
   (first|rw [oW]|(simp only [cS,cV];rw [oW])|skip)
   have H':=ah.mk H
   clear H
   have aft:=oo.out
   have afu:=oq.out
   have tB:w5.cell? ⟨dP,0,none⟩=some (.int .u8 aI):=(af cg.out 0).trans rfl
   have tC:w5.cell? ⟨dP,1,none⟩=some (.string bh):=(af cg.out 1).trans rfl
   have Aa:w5.cell? ⟨dP,2,none⟩=some (.bool bn):=(af cg.out 2).trans rfl
   have Ac:w5.cell? ⟨dP,3,none⟩=some (.slice dn bT.length dw):=(af cg.out 3).trans rfl
   have Ad:w5.cell? ⟨dP,4,none⟩=some (.string bz):=(af cg.out 4).trans rfl
   have Ae:w5.cell? ⟨dP,5,none⟩=some (.string bW):=(af cg.out 5).trans rfl
   have Af:w5.cell? ⟨dP,6,none⟩=some (.bool bX):=(af cg.out 6).trans rfl
   have Ag:w5.cell? ⟨dP,7,none⟩=some (.slice dF bw.length dx):=(af cg.out 7).trans rfl
   have tD:=aa cg.out 0
   have tE:=aa cg.out 1
   have Ah:=aa cg.out 2
   have Ai:=aa cg.out 3
   have Aj:=aa cg.out 4
   have Ak:=aa cg.out 5
   have Al:=aa cg.out 6
   have Am:=aa cg.out 7
   have vC:w5.cell? ⟨eD,0,none⟩=some (.int .u8 gh):=(af cH.out 0).trans rfl
   have vD:w5.cell? ⟨eD,1,none⟩=some (.string jl):=(af cH.out 1).trans rfl
   have vE:w5.cell? ⟨eD,2,none⟩=some (.bool gw):=(af cH.out 2).trans rfl
   have Ao:w5.cell? ⟨eD,3,none⟩=some (.slice oY iP.length oZ):=(af cH.out 3).trans rfl
   have Ap:w5.cell? ⟨eD,4,none⟩=some (.string gy):=(af cH.out 4).trans rfl
   have SJ:w5.cell? ⟨eD,5,none⟩=some (.string jh):=(af cH.out 5).trans rfl
   have SK:w5.cell? ⟨eD,6,none⟩=some (.bool ji):=(af cH.out 6).trans rfl
   have SL:w5.cell? ⟨eD,7,none⟩=some (.slice o7 gY.length o8):=(af cH.out 7).trans rfl
   have vF:=aa cH.out 0
   have vG:=aa cH.out 1
   have vH:=aa cH.out 2
   have Aq:=aa cH.out 3
   have Ar:=aa cH.out 4
   have SM:=aa cH.out 5
   have SN:=aa cH.out 6
   have SP:=aa cH.out 7
   go_wp2
   repeat (go_quiet (fail);try go_wp2)
   go_meet
   case rel=>exact ⟨_,(true),dL,H',⟨nB⟩,⟨pJ⟩,⟨sY⟩,⟨pI⟩⟩
 case rest=>
  clear WQ
  try clear c1
  try clear c2
  try clear p2
  try clear c3
  try clear c6
  try clear oW
  try clear yS
  try clear c7
  try clear Nb
  try clear WT
  try clear c9
  try clear c10
  try clear c16
  try clear c20
  try clear WR
  try clear uM
  try clear uN
  try clear uO
  try clear zR
  try clear zS
  try clear Cc
  try clear Ce
  try clear Cf
  try clear wW
  try clear wX
  try clear zP
  try clear B0
  try clear B6
  try clear Sp
  try clear Sq
  try clear Sr
  try clear uS
  try clear uT
  try clear xh
  try clear xj
  try clear xk
  try clear xm
  try clear xp
  try clear xq
  try clear qj
  try clear qm
  try clear qo
  try clear qp
  try clear qq
  try clear uW
  try clear uX
  try clear uY
  try clear u9
  try clear vk
  try clear Cj
  try clear KR
  try clear KS
  try clear KU
  try clear KV
  try clear KW
  try clear zV
  try clear zW
  try clear Cl
  try clear K4
  try clear K5
  try clear Sw
  try clear Sy
  try clear Sz
  try clear rL
  try clear rM
  try clear rN
  try clear vv
  try clear vw
  try clear xB
  try clear xC
  try clear xD
  try clear zZ
  try clear z6
  try clear Cn
  try clear K8
  try clear K9
  try clear SD
  try clear SE
  try clear SF
  try clear tB
  try clear tC
  try clear Aa
  try clear Ac
  try clear Ad
  try clear Ae
  try clear Af
  try clear Ag
  try clear vC
  try clear vD
  try clear vE
  try clear Ao
  try clear Ap
  try clear SJ
  try clear SK
  try clear SL
  try clear uP
  try clear uQ
  try clear uR
  try clear zT
  try clear zU
  try clear Cg
  try clear Ch
  try clear Ci
  try clear wY
  try clear wZ
  try clear zQ
  try clear Ca
  try clear Cb
  try clear Ss
  try clear Su
  try clear Sv
  try clear uU
  try clear uV
  try clear xu
  try clear xw
  try clear xx
  try clear xy
  try clear xz
  try clear xA
  try clear qu
  try clear qw
  try clear qx
  try clear qy
  try clear qz
  try clear uZ
  try clear u5
  try clear u7
  try clear vo
  try clear vq
  try clear Ck
  try clear KX
  try clear KY
  try clear KZ
  try clear K2
  try clear K3
  try clear zX
  try clear zY
  try clear Cm
  try clear K6
  try clear K7
  try clear SA
  try clear SB
  try clear SC
  try clear rO
  try clear rP
  try clear rQ
  try clear vA
  try clear vB
  try clear xE
  try clear xG
  try clear xH
  try clear z7
  try clear z8
  try clear Co
  try clear La
  try clear Lb
  try clear SG
  try clear SH
  try clear SI
  try clear tD
  try clear tE
  try clear Ah
  try clear Ai
  try clear Aj
  try clear Ak
  try clear Al
  try clear Am
  try clear vF
  try clear vG
  try clear vH
  try clear Aq
  try clear Ar
  try clear SM
  try clear SN
  try clear SP
  obtain ⟨kq,Sn,rfl,HA,HJ2,cg,cH,HB⟩:=hcut
  cases kq with
  |zero=>exact absurd HA.out (by simp [aZ.j0])
  |succ ER=>
   have H:=HA.out
   clear HA
   simp only [aZ.j0] at H
   by_cases VO:Sn=true
   ·subst VO
    have H1:(some false)=some r:=by rw [if_pos rfl] at H;exact H
    clear H
    have H:=H1
    clear H1
    obtain rfl:=Option.some.inj H
    go_wp2
    repeat (go_quiet (fail);try go_wp2)
    go_ret
    exact ⟨cU,pI⟩
   ·replace VO:=Bool.eq_false_iff.mpr VO
    subst VO
    have H1:(aZ.l0 ER (bw.length:Int) 0 aI bh bn bT bz bW bX bw gh jl gw iP gy jh ji gY)=some r:=by rw [if_neg (show ¬ (false=true) by decide)] at H;exact H
    clear H
    have H:=H1
    clear H1
    have H':=ah.mk H
    clear H
    have abU:=oo.out
    have abV:=oq.out
    have Fx:wc.cell? ⟨dP,0,none⟩=some (.int .u8 aI):=(af cg.out 0).trans rfl
    have Fy:wc.cell? ⟨dP,1,none⟩=some (.string bh):=(af cg.out 1).trans rfl
    have Fz:wc.cell? ⟨dP,2,none⟩=some (.bool bn):=(af cg.out 2).trans rfl
    have Lc:wc.cell? ⟨dP,3,none⟩=some (.slice dn bT.length dw):=(af cg.out 3).trans rfl
    have Ld:wc.cell? ⟨dP,4,none⟩=some (.string bz):=(af cg.out 4).trans rfl
    have Le:wc.cell? ⟨dP,5,none⟩=some (.string bW):=(af cg.out 5).trans rfl
    have Lf:wc.cell? ⟨dP,6,none⟩=some (.bool bX):=(af cg.out 6).trans rfl
    have Lg:wc.cell? ⟨dP,7,none⟩=some (.slice dF bw.length dx):=(af cg.out 7).trans rfl
    have FA:=aa cg.out 0
    have FB:=aa cg.out 1
    have FC:=aa cg.out 2
    have Lh:=aa cg.out 3
    have Li:=aa cg.out 4
    have Lj:=aa cg.out 5
    have Ll:=aa cg.out 6
    have Lm:=aa cg.out 7
    go_wp2
    repeat (go_quiet (fail);try go_wp2)
    go_loopg [38] ER (fun kq v38 w'=>∃ (iU:Int),v38= .int .i64 iU∧ah (aZ.l0 kq (bw.length:Int) iU aI bh bn bT bz bW bX bw gh jl gw iP gy jh ji gY=some r)∧ah (kq≤ER)∧ah (w'.heap[dP]? =some (.cells #[.int .u8 aI,.string bh,.bool bn,(.slice dn bT.length dw),.string bz,.string bW,.bool bX,(.slice dF bw.length dx)] 35 (0,0)))∧ah (w'.heap[eD]? =some (.cells #[.int .u8 gh,.string jl,.bool gw,(.slice oY iP.length oZ),.string gy,.string jh,.bool ji,(.slice o7 gY.length o8)] 35 (0,0)))∧ah (Below w.heap.size w w'))
    case atStart=>exact ⟨(0),dL,H',⟨Nat.le_refl _⟩,⟨pJ⟩,⟨sY⟩,⟨pI⟩⟩
    case round=>
     clear H'
     try clear c1
     try clear c2
     try clear p2
     try clear c3
     try clear c6
     try clear oW
     try clear yS
     try clear c7
     try clear Nb
     try clear WT
     try clear c9
     try clear c10
     try clear c16
     try clear c20
     try clear WR
     try clear VO
     try clear IJ
     try clear uM
     try clear uN
     try clear uO
     try clear zR
     try clear zS
     try clear Cc
     try clear Ce
     try clear Cf
     try clear wW
     try clear wX
     try clear zP
     try clear B0
     try clear B6
     try clear Sp
     try clear Sq
     try clear Sr
     try clear uS
     try clear uT
     try clear xh
     try clear xj
     try clear xk
     try clear xm
     try clear xp
     try clear xq
     try clear qj
     try clear qm
     try clear qo
     try clear qp
     try clear qq
     try clear uW
     try clear uX
     try clear uY
     try clear u9
     try clear vk
     try clear Cj
     try clear KR
     try clear KS
     try clear KU
     try clear KV
     try clear KW
     try clear zV
     try clear zW
     try clear Cl
     try clear K4
     try clear K5
     try clear Sw
     try clear Sy
     try clear Sz
     try clear rL
     try clear rM
     try clear rN
     try clear vv
     try clear vw
     try clear xB
     try clear xC
     try clear xD
     try clear zZ
     try clear z6
     try clear Cn
     try clear K8
     try clear K9
     try clear SD
     try clear SE
     try clear SF
     try clear tB
     try clear tC
     try clear Aa
     try clear Ac
     try clear Ad
     try clear Ae
     try clear Af
     try clear Ag
     try clear vC
     try clear vD
     try clear vE
     try clear Ao
     try clear Ap
     try clear SJ
     try clear SK
     try clear SL
     try clear Fx
     try clear Fy
     try clear Fz
     try clear Lc
     try clear Ld
     try clear Le
     try clear Lf
     try clear Lg
     try clear uP
     try clear uQ
     try clear uR
     try clear zT
     try clear zU
     try clear Cg
     try clear Ch
     try clear Ci
     try clear wY
     try clear wZ
     try clear zQ
     try clear Ca
     try clear Cb
     try clear Ss
     try clear Su
     try clear Sv
     try clear uU
     try clear uV
     try clear xu
     try clear xw
     try clear xx
     try clear xy
     try clear xz
     try clear xA
     try clear qu
     try clear qw
     try clear qx
     try clear qy
     try clear qz
     try clear uZ
     try clear u5
     try clear u7
     try clear vo
     try clear vq
     try clear Ck
     try clear KX
     try clear KY
     try clear KZ
     try clear K2
     try clear K3
     try clear zX
     try clear zY
     try clear Cm
     try clear K6
     try clear K7
     try clear SA
     try clear SB
     try clear SC
     try clear rO
     try clear rP
     try clear rQ
     try clear vA
     try clear vB
     try clear xE
     try clear xG
     try clear xH
     try clear z7
     try clear z8
     try clear Co
     try clear La
     try clear Lb
     try clear SG
     try clear SH
     try clear SI
     try clear tD
     try clear tE
     try clear Ah
     try clear Ai
     try clear Aj
     try clear Ak
     try clear Al
     try clear Am
     try clear vF
     try clear vG
     try clear vH
     try clear Aq
     try clear Ar
     try clear SM
     try clear SN
     try clear SP
     try clear FA
     try clear FB
     try clear FC
     try clear Lh
     try clear Li
     try clear Lj
     try clear Ll
     try clear Lm
     try clear p2
     obtain ⟨iU,rfl,HA,PT,cg,cH,HB⟩:=hrel
     cases gk with
     |zero=>exact absurd HA.out (by simp [aZ.l0])
     |succ k2=>
      have H:=HA.out
      clear HA
      simp only [aZ.l0] at H
      by_cases VP:iU < (bw.length:Int)
      ·rw [if_pos VP] at H
       have abW:decide (iU < (bw.length:Int))=true:=decide_eq_true VP
       clear VP
       by_cases IA: 0≤iU
       ·rw [if_pos IA] at H
        have WU:decide (0≤iU)=true:=decide_eq_true IA
        clear IA
        by_cases c31:iU < (bw.length:Int)
        ·rw [if_pos c31] at H
         have aqa:decide (iU < (bw.length:Int))=true:=decide_eq_true c31
         clear c31
         by_cases IK:iU < (gY.length:Int)
         ·rw [if_pos IK] at H
          have Nc:decide (iU < (gY.length:Int))=true:=decide_eq_true IK
          clear IK
          by_cases Jh:(!((((cv bw iU).f0).toList) == (((cv gY iU).f0).toList)) || (!((((cv bw iU).f1).toList) == (((cv gY iU).f1).toList)) || (!(((cv bw iU).f2) == ((cv gY iU).f2)))))=true
          ·rw [if_pos Jh] at H
           have SQ:(!((((cv bw iU).f0).toList) == (((cv gY iU).f0).toList)) || (!((((cv bw iU).f1).toList) == (((cv gY iU).f1).toList)) || (!(((cv bw iU).f2) == ((cv gY iU).f2)))))=true:=Jh
           clear Jh
           obtain rfl:=Option.some.inj H
           have afv:=oo.out
           have afw:=oq.out
           have Cq:wr.cell? ⟨dP,0,none⟩=some (.int .u8 aI):=(af cg.out 0).trans rfl
           have Cr:wr.cell? ⟨dP,1,none⟩=some (.string bh):=(af cg.out 1).trans rfl
           have Cs:wr.cell? ⟨dP,2,none⟩=some (.bool bn):=(af cg.out 2).trans rfl
           have SR:wr.cell? ⟨dP,3,none⟩=some (.slice dn bT.length dw):=(af cg.out 3).trans rfl
           have SS:wr.cell? ⟨dP,4,none⟩=some (.string bz):=(af cg.out 4).trans rfl
           have ZF:wr.cell? ⟨dP,5,none⟩=some (.string bW):=(af cg.out 5).trans rfl
           have ZG:wr.cell? ⟨dP,6,none⟩=some (.bool bX):=(af cg.out 6).trans rfl
           have ZH:wr.cell? ⟨dP,7,none⟩=some (.slice dF bw.length dx):=(af cg.out 7).trans rfl
           have Ct:=aa cg.out 0
           have Cu:=aa cg.out 1
           have Cv:=aa cg.out 2
           have SU:=aa cg.out 3
           have SV:=aa cg.out 4
           have ZI:=aa cg.out 5
           have ZJ:=aa cg.out 6
           have ZK:=aa cg.out 7
           have PY: 0≤(iU:Int):=of_decide_eq_true cO
           have PZ:iU < (bw.length:Int):=of_decide_eq_true cO
           obtain ⟨afx,adb,xI,xJ,xK⟩:=vY lS.out iU PY PZ
           cases adb
           replace xI:=(HB.out.cell (World.block_lt_of_cell? w _ xI)).trans xI
           replace xJ:=(HB.out.cell (World.block_lt_of_cell? w _ xJ)).trans xJ
           replace xK:=(HB.out.cell (World.block_lt_of_cell? w _ xK)).trans xK
           replace PY:=eq_true PY
           replace PZ:=eq_true PZ
           have Cw:wr.cell? ⟨eD,0,none⟩=some (.int .u8 gh):=(af cH.out 0).trans rfl
           have Cx:wr.cell? ⟨eD,1,none⟩=some (.string jl):=(af cH.out 1).trans rfl
           have Cy:wr.cell? ⟨eD,2,none⟩=some (.bool gw):=(af cH.out 2).trans rfl
           have SX:wr.cell? ⟨eD,3,none⟩=some (.slice oY iP.length oZ):=(af cH.out 3).trans rfl
           have SY:wr.cell? ⟨eD,4,none⟩=some (.string gy):=(af cH.out 4).trans rfl
           have ZL:wr.cell? ⟨eD,5,none⟩=some (.string jh):=(af cH.out 5).trans rfl
           have ZM:wr.cell? ⟨eD,6,none⟩=some (.bool ji):=(af cH.out 6).trans rfl
           have ZN:wr.cell? ⟨eD,7,none⟩=some (.slice o7 gY.length o8):=(af cH.out 7).trans rfl
           have Cz:=aa cH.out 0
           have CC:=aa cH.out 1
           have CD:=aa cH.out 2
           have SZ:=aa cH.out 3
           have S0:=aa cH.out 4
           have ZO:=aa cH.out 5
           have ZP:=aa cH.out 6
           have ZQ:=aa cH.out 7
           have P4: 0≤(iU:Int):=of_decide_eq_true cO
           have P5:iU < (gY.length:Int):=of_decide_eq_true cO
           obtain ⟨afy,ade,xL,xM,xN⟩:=vY Sm.out iU P4 P5
           cases ade
           replace xL:=(HB.out.cell (World.block_lt_of_cell? w _ xL)).trans xL
           replace xM:=(HB.out.cell (World.block_lt_of_cell? w _ xM)).trans xM
           replace xN:=(HB.out.cell (World.block_lt_of_cell? w _ xN)).trans xN
           replace P4:=eq_true P4
           replace P5:=eq_true P5
           go_wp2
           repeat (go_quiet (fail);try go_wp2)
           go_ret
           exact ⟨cU,pI⟩
          ·rw [if_neg Jh] at H
           have SQ:(!((((cv bw iU).f0).toList) == (((cv gY iU).f0).toList)) || (!((((cv bw iU).f1).toList) == (((cv gY iU).f1).toList)) || (!(((cv bw iU).f2) == ((cv gY iU).f2)))))=false:=by simpa using Jh
           clear Jh
           have H':=ah.mk H
           clear H
           have aqb:=oo.out
           have aqc:=oq.out
           have ZR:wr.cell? ⟨dP,0,none⟩=some (.int .u8 aI):=(af cg.out 0).trans rfl
           have ZT:wr.cell? ⟨dP,1,none⟩=some (.string bh):=(af cg.out 1).trans rfl
           have ZU:wr.cell? ⟨dP,2,none⟩=some (.bool bn):=(af cg.out 2).trans rfl
           have ZV:wr.cell? ⟨dP,3,none⟩=some (.slice dn bT.length dw):=(af cg.out 3).trans rfl
           have ZW:wr.cell? ⟨dP,4,none⟩=some (.string bz):=(af cg.out 4).trans rfl
           have ajq:wr.cell? ⟨dP,5,none⟩=some (.string bW):=(af cg.out 5).trans rfl
           have ajr:wr.cell? ⟨dP,6,none⟩=some (.bool bX):=(af cg.out 6).trans rfl
           have ajs:wr.cell? ⟨dP,7,none⟩=some (.slice dF bw.length dx):=(af cg.out 7).trans rfl
           have ZX:=aa cg.out 0
           have ZY:=aa cg.out 1
           have ZZ:=aa cg.out 2
           have Z0:=aa cg.out 3
           have Z1:=aa cg.out 4
           have ajt:=aa cg.out 5
           have aju:=aa cg.out 6
           have ajv:=aa cg.out 7
           have PY: 0≤(iU:Int):=of_decide_eq_true cO
           have PZ:iU < (bw.length:Int):=of_decide_eq_true cO
           obtain ⟨afx,adb,xI,xJ,xK⟩:=vY lS.out iU PY PZ
           cases adb
           replace xI:=(HB.out.cell (World.block_lt_of_cell? w _ xI)).trans xI
           replace xJ:=(HB.out.cell (World.block_lt_of_cell? w _ xJ)).trans xJ
           replace xK:=(HB.out.cell (World.block_lt_of_cell? w _ xK)).trans xK
           replace PY:=eq_true PY
           replace PZ:=eq_true PZ
           have FD:wr.cell? ⟨eD,0,none⟩=some (.int .u8 gh):=(af cH.out 0).trans rfl
           have FE:wr.cell? ⟨eD,1,none⟩=some (.string jl):=(af cH.out 1).trans rfl
           have Z2:wr.cell? ⟨eD,2,none⟩=some (.bool gw):=(af cH.out 2).trans rfl
           have ajw:wr.cell? ⟨eD,3,none⟩=some (.slice oY iP.length oZ):=(af cH.out 3).trans rfl
           have ajx:wr.cell? ⟨eD,4,none⟩=some (.string gy):=(af cH.out 4).trans rfl
           have ajy:wr.cell? ⟨eD,5,none⟩=some (.string jh):=(af cH.out 5).trans rfl
           have ajz:wr.cell? ⟨eD,6,none⟩=some (.bool ji):=(af cH.out 6).trans rfl
           have ajA:wr.cell? ⟨eD,7,none⟩=some (.slice o7 gY.length o8):=(af cH.out 7).trans rfl
           have FH:=aa cH.out 0
           have FI:=aa cH.out 1
           have Z3:=aa cH.out 2
           have ajB:=aa cH.out 3
           have ajC:=aa cH.out 4
           have ajD:=aa cH.out 5
           have ajE:=aa cH.out 6
           have ajF:=aa cH.out 7
           have P4: 0≤(iU:Int):=of_decide_eq_true cO
           have P5:iU < (gY.length:Int):=of_decide_eq_true cO
           obtain ⟨afy,ade,xL,xM,xN⟩:=vY Sm.out iU P4 P5
           cases ade
           replace xL:=(HB.out.cell (World.block_lt_of_cell? w _ xL)).trans xL
           replace xM:=(HB.out.cell (World.block_lt_of_cell? w _ xM)).trans xM
           replace xN:=(HB.out.cell (World.block_lt_of_cell? w _ xN)).trans xN
           replace P4:=eq_true P4
           replace P5:=eq_true P5
           go_wp2
           repeat (go_quiet (fail);try go_wp2)
           go_roundg k2
           case measure=>have:=HJ2.out;have:=PT.out;omega
           case rel=>exact ⟨(wrap64 (iU + 1)),dL,H',⟨by have:=HJ2.out;have:=PT.out;omega⟩,⟨pJ⟩,⟨sY⟩,⟨pI⟩⟩
         ·rw [if_neg IK] at H
          exact absurd H bf
        ·rw [if_neg c31] at H
         exact absurd H bf
       ·rw [if_neg IA] at H
        exact absurd H bf
      ·rw [if_neg VP] at H
       have abW:decide (iU < (bw.length:Int))=false:=decide_eq_false VP
       clear VP
       obtain rfl:=Option.some.inj H
       go_wp2
       repeat (go_quiet (fail);try go_wp2)
       go_ret
       exact ⟨cU,pI⟩
end Go.Proofs.YtokpnfljjjjikaaGreatDoor.n9
