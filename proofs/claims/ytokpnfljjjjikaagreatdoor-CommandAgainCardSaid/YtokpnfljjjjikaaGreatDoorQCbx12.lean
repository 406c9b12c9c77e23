import Derived.Test.YtokpnfljjjjikaaGreatDoorZo
import Derived.Test.YtokpnfljjjjikaaGreatDoorQCbx0
import Derived.Test.YtokpnfljjjjikaaGreatDoorQCbx2
import Derived.Test.YtokpnfljjjjikaaGreatDoorQCbx11
namespace Go.Proofs.YtokpnfljjjjikaaGreatDoor.pJ
open Go.RowKit Go.Proofs.aj.bV Go.Proofs.aj.gq Go.Proofs.aj.dB
attribute [local go_sem] jo jq kM kN iO iP jr jt
set_option linter.unusedVariables false
set_option linter.unusedSimpArgs false
attribute [local go_sem high] adH
mutual
def aN.j0:Nat→Bool→Int→ByteArray→Bool→List ByteArray→ByteArray→ByteArray→Bool→List (ij)→Int→ByteArray→Bool→List ByteArray→ByteArray→ByteArray→Bool→List (ij)→Option (Bool)
 | 0,_,_,_,_,_,_,_,_,_,_,_,_,_,_,_,_,_ =>none
 |k + 1,x34,Jf,Jg,Jh,Ji,Jj,Jk,Jl,tu,Jm,Jn,Jo,Jp,Jq,Jr,Js,vL=>if x34=true then (some false) else (aN.l0 k (tu.length:Int) 0 Jf Jg Jh Ji Jj Jk Jl tu Jm Jn Jo Jp Jq Jr Js vL)
def aN.l0:Nat→Int→Int→Int→ByteArray→Bool→List ByteArray→ByteArray→ByteArray→Bool→List (ij)→Int→ByteArray→Bool→List ByteArray→ByteArray→ByteArray→Bool→List (ij)→Option (Bool)
 | 0,_,_,_,_,_,_,_,_,_,_,_,_,_,_,_,_,_,_ =>none
 |k + 1,x37,Vp,Jf,Jg,Jh,Ji,Jj,Jk,Jl,tu,Jm,Jn,Jo,Jp,Jq,Jr,Js,vL=>if Vp < x37 then (if 0≤Vp then (if Vp < (tu.length:Int) then (if Vp < (vL.length:Int) then (if (!((((dL tu Vp).f0).toList) == (((dL vL Vp).f0).toList)) || (!((((dL tu Vp).f1).toList) == (((dL vL Vp).f1).toList)) || (!(((dL tu Vp).f2) == ((dL vL Vp).f2)))))=true then (some false) else (aN.l0 k x37 (wrap64 (Vp + 1)) Jf Jg Jh Ji Jj Jk Jl tu Jm Jn Jo Jp Jq Jr Js vL)) else (none)) else (none)) else (none)) else (some true)
end
def aN.f (k:Nat) (bg:Int) (bI:ByteArray) (bJ:Bool) (cM:List ByteArray) (bO:ByteArray) (cU:ByteArray) (cV:Bool) (cg:List (ij)) (gu:Int) (jm:ByteArray) (gA:Bool) (iU:List ByteArray) (gB:ByteArray) (jk:ByteArray) (jl:Bool) (ia:List (ij)):Option (Bool):=if bg=gu then (if bI.toList=jm.toList then ((bH.f k bJ cM bO cU cV gA iU gB jk jl).bind fun t253=>(if t253=true then (aN.j0 k ((cg.length:Int) != (ia.length:Int)) bg bI bJ cM bO cU cV cg gu jm gA iU gB jk jl ia) else (aN.j0 k true bg bI bJ cM bO cU cV cg gu jm gA iU gB jk jl ia))) else (aN.j0 k true bg bI bJ cM bO cU cV cg gu jm gA iU gB jk jl ia)) else (aN.j0 k true bg bI bJ cM bO cU cV cg gu jm gA iU gB jk jl ia)
theorem aN.gf:∀ k,(∀ y0 y1 y2 y3 y4 y5 y6 y7 y8 y9 Oh Vm y12 y13 y14 y15 y16,cN (aN.j0 k y0 y1 y2 y3 y4 y5 y6 y7 y8 y9 Oh Vm y12 y13 y14 y15 y16) (aN.j0 (k + 1) y0 y1 y2 y3 y4 y5 y6 y7 y8 y9 Oh Vm y12 y13 y14 y15 y16))∧(∀ y0 y1 y2 y3 y4 y5 y6 y7 y8 y9 Oh Vm y12 y13 y14 y15 y16 y17,cN (aN.l0 k y0 y1 y2 y3 y4 y5 y6 y7 y8 y9 Oh Vm y12 y13 y14 y15 y16 y17) (aN.l0 (k + 1) y0 y1 y2 y3 y4 y5 y6 y7 y8 y9 Oh Vm y12 y13 y14 y15 y16 y17))
 | 0=>⟨fun _ _ _ _ _ _ _ _ _ _ _ _ _ _ _ _ _ r h=>by simp [aN.j0] at h,fun _ _ _ _ _ _ _ _ _ _ _ _ _ _ _ _ _ _ r h=>by simp [aN.l0] at h⟩
 |k + 1=>by
  obtain ⟨oo,ih1⟩:=aN.gf k
  refine ⟨?_,?_⟩
  ·intro y0 y1 y2 y3 y4 y5 y6 y7 y8 y9 Oh Vm y12 y13 y14 y15 y16
   unfold aN.j0
   repeat' first
   |(with_reducible exact oo _ _ _ _ _ _ _ _ _ _ _ _ _ _ _ _ _)
   |(with_reducible exact ih1 _ _ _ _ _ _ _ _ _ _ _ _ _ _ _ _ _ _)
   |(with_reducible exact bH.mono _ _ _ _ _ _ _ _ _ _ _)
   |(with_reducible exact cN.refl _)
   |(with_reducible exact cN.none _)
   |(with_reducible refine cN.ite ?_ ?_)
   |(with_reducible refine cN.bind ?_ (fun _ =>?_))
   |refine cN.ite ?_ ?_
   |refine cN.bind ?_ (fun _ =>?_)
  ·intro y0 y1 y2 y3 y4 y5 y6 y7 y8 y9 Oh Vm y12 y13 y14 y15 y16 y17
   unfold aN.l0
   repeat' first
   |(with_reducible exact oo _ _ _ _ _ _ _ _ _ _ _ _ _ _ _ _ _)
   |(with_reducible exact ih1 _ _ _ _ _ _ _ _ _ _ _ _ _ _ _ _ _ _)
   |(with_reducible exact bH.mono _ _ _ _ _ _ _ _ _ _ _)
   |(with_reducible exact cN.refl _)
   |(with_reducible exact cN.none _)
   |(with_reducible refine cN.ite ?_ ?_)
   |(with_reducible refine cN.bind ?_ (fun _ =>?_))
   |refine cN.ite ?_ ?_
   |refine cN.bind ?_ (fun _ =>?_)
theorem aN.mono:∀ a0 a1 a2 a3 a4 a5 a6 a7 a8 a9 a10 a11 a12 a13 a14 a15 k,cN (aN.f k a0 a1 a2 a3 a4 a5 a6 a7 a8 a9 a10 a11 a12 a13 a14 a15) (aN.f (k + 1) a0 a1 a2 a3 a4 a5 a6 a7 a8 a9 a10 a11 a12 a13 a14 a15):=by
 intro a0 a1 a2 a3 a4 a5 a6 a7 a8 a9 a10 a11 a12 a13 a14 a15 k
 obtain ⟨oo,ih1⟩:=aN.gf k
 unfold aN.f
 repeat' first
  |(with_reducible exact oo _ _ _ _ _ _ _ _ _ _ _ _ _ _ _ _ _)
  |(with_reducible exact ih1 _ _ _ _ _ _ _ _ _ _ _ _ _ _ _ _ _ _)
  |(with_reducible exact bH.mono _ _ _ _ _ _ _ _ _ _ _)
  |(with_reducible exact cN.refl _)
  |(with_reducible exact cN.none _)
  |(with_reducible refine cN.ite ?_ ?_)
  |(with_reducible refine cN.bind ?_ (fun _ =>?_))
  |refine cN.ite ?_ ?_
  |refine cN.bind ?_ (fun _ =>?_)
set_option maxHeartbeats 8000000 in
set_option maxRecDepth 100000 in
theorem aN.calls (k:Nat) (bg:Int) (bI:ByteArray) (bJ:Bool) (fk:Option Addr) (fo:Nat) (cM:List ByteArray) (bO:ByteArray) (cU:ByteArray) (cV:Bool) (fC:Option Addr) (fq:Nat) (cg:List (ij)) (gu:Int) (jm:ByteArray) (gA:Bool) (oF:Option Addr) (oG:Nat) (iU:List ByteArray) (gB:ByteArray) (jk:ByteArray) (jl:Bool) (oH:Option Addr) (oI:Nat) (ia:List (ij)) (r:Bool) (w:World) (tv:Kd.C Kd.string w fk cM.length cM) (tA:cM.length≤fo) (tB:Kd.C CF w fC cg.length cg) (tC:cg.length≤fq) (LR:Kd.C Kd.string w oF iU.length iU) (LS:iU.length≤oG) (LU:Kd.C CF w oH ia.length ia) (LV:ia.length≤oI) (h:aN.f k bg bI bJ cM bO cU cV cg gu jm gA iU gB jk jl ia=some r):
 Calls Tryz.prog 36 #[.agg #[.int .u8 bg,.string bI,.bool bJ,.slice fk cM.length fo,.string bO,.string cU,.bool cV,.slice fC cg.length fq],.agg #[.int .u8 gu,.string jm,.bool gA,.slice oF iU.length oG,.string gB,.string jk,.bool jl,.slice oH ia.length oI]] w fun e w'=>e= .returned (.bool r)∧Below w.heap.size w w':=by
 have LW:=Tryz.underlying35
 have Oi:=Tryz.underlying32
 have Vq:=Tryz.underlying58
 have nI:=ah.mk tv
 have nJ:=ah.mk tA
 clear tv tA
 have pW:=ah.mk tB
 have sI:=ah.mk tC
 clear tB tC
 have CJ:=ah.mk LR
 have CK:=ah.mk LS
 clear LR LS
 have QI:=ah.mk LU
 have aag:=ah.mk LV
 clear LU LV
 have HB:=ah.mk (Below.refl w.heap.size w)
 have H:(if bg=gu then (if bI.toList=jm.toList then ((bH.f k bJ cM bO cU cV gA iU gB jk jl).bind fun t253=>(if t253=true then (aN.j0 k ((cg.length:Int) != (ia.length:Int)) bg bI bJ cM bO cU cV cg gu jm gA iU gB jk jl ia) else (aN.j0 k true bg bI bJ cM bO cU cV cg gu jm gA iU gB jk jl ia))) else (aN.j0 k true bg bI bJ cM bO cU cV cg gu jm gA iU gB jk jl ia)) else (aN.j0 k true bg bI bJ cM bO cU cV cg gu jm gA iU gB jk jl ia))=some r:=h
 clear h
 have Vn:=ah.mk H
 clear H
 go_enter Tryz.func36,Tryz.ntmps36
 go_upto_region 1 with (first|((with_reducible refine cC (N:=2) rfl ?_);(try (refine cO (by rfl) ?_;dsimp only));refine b9 ?hg (N:=2) ?hd (cs:=#[.int .u8 bg,.string bI,.bool bJ,.slice fk cM.length fo,.string bO,.string cU,.bool cV,.slice fC cg.length fq]) (t:=35) ?hr ?_;(case hd=>rfl);(case hg=>rfl);(case hr=>first|(go_simp;done)|(go_simp;rfl));intro dS hg w4 cJ hb;have bB:=ah.mk (ay bN hb);have bL:=ah.mk (cJ);have bY:=ah.mk ((dz:w.heap.size≤dS));have cK:=ah.mk ((dz:w.heap.size≤dS));clear HB;have HB:=bB;have cj:=bL;have aah:=bY;have Ls:=cK;clear bB bL bY cK;clear hb cJ hg)|((with_reducible refine cC (N:=3) rfl ?_);(try (refine cO (by rfl) ?_;dsimp only));refine b9 ?hg (N:=3) ?hd (cs:=#[.int .u8 gu,.string jm,.bool gA,.slice oF iU.length oG,.string gB,.string jk,.bool jl,.slice oH ia.length oI]) (t:=35) ?hr ?_;(case hd=>rfl);(case hg=>rfl);(case hr=>first|(go_simp;done)|(go_simp;rfl));intro eB hg w5 cJ hb;have bB:=ah.mk (aM (g:=dS) (o:= .cells #[.int .u8 bg,.string bI,.bool bJ,.slice fk cM.length fo,.string bO,.string cU,.bool cV,.slice fC cg.length fq] 35 (0,0)) oX hb);have bL:=ah.mk (ay NV hb);have bY:=ah.mk (cJ);have cK:=ah.mk ((BL:w.heap.size≤eB));have gY:=ah.mk ((BL:w.heap.size≤eB));have jc:=ah.mk ((Iq:dS≠eB));have nH:=ah.mk ((Ir:eB≠dS));clear cj;clear HB;have cj:=bB;have HB:=bL;have cI:=bY;have aai:=cK;have Uf:=gY;have nS:=jc;have nT:=nH;clear bB bL bY cK gY jc nH;clear hb cJ hg))
 repeat (go_quiet (first|((with_reducible refine cC (N:=2) rfl ?_);(try (refine cO (by rfl) ?_;dsimp only));refine b9 ?hg (N:=2) ?hd (cs:=#[.int .u8 bg,.string bI,.bool bJ,.slice fk cM.length fo,.string bO,.string cU,.bool cV,.slice fC cg.length fq]) (t:=35) ?hr ?_;(case hd=>rfl);(case hg=>rfl);(case hr=>first|(go_simp;done)|(go_simp;rfl));intro dS hg w4 cJ hb;have bB:=ah.mk (ay bN hb);have bL:=ah.mk (cJ);have bY:=ah.mk ((dz:w.heap.size≤dS));have cK:=ah.mk ((dz:w.heap.size≤dS));clear HB;have HB:=bB;have cj:=bL;have aah:=bY;have Ls:=cK;clear bB bL bY cK;clear hb cJ hg)|((with_reducible refine cC (N:=3) rfl ?_);(try (refine cO (by rfl) ?_;dsimp only));refine b9 ?hg (N:=3) ?hd (cs:=#[.int .u8 gu,.string jm,.bool gA,.slice oF iU.length oG,.string gB,.string jk,.bool jl,.slice oH ia.length oI]) (t:=35) ?hr ?_;(case hd=>rfl);(case hg=>rfl);(case hr=>first|(go_simp;done)|(go_simp;rfl));intro eB hg w5 cJ hb;have bB:=ah.mk (aM (g:=dS) (o:= .cells #[.int .u8 bg,.string bI,.bool bJ,.slice fk cM.length fo,.string bO,.string cU,.bool cV,.slice fC cg.length fq] 35 (0,0)) oX hb);have bL:=ah.mk (ay NV hb);have bY:=ah.mk (cJ);have cK:=ah.mk ((BL:w.heap.size≤eB));have gY:=ah.mk ((BL:w.heap.size≤eB));have jc:=ah.mk ((Iq:dS≠eB));have nH:=ah.mk ((Ir:eB≠dS));clear cj;clear HB;have cj:=bB;have HB:=bL;have cI:=bY;have aai:=cK;have Uf:=gY;have nS:=jc;have nT:=nH;clear bB bL bY cK gY jc nH;clear hb cJ hg));go_upto_region 1 with (first|((with_reducible refine cC (N:=2) rfl ?_);(try (refine cO (by rfl) ?_;dsimp only));refine b9 ?hg (N:=2) ?hd (cs:=#[.int .u8 bg,.string bI,.bool bJ,.slice fk cM.length fo,.string bO,.string cU,.bool cV,.slice fC cg.length fq]) (t:=35) ?hr ?_;(case hd=>rfl);(case hg=>rfl);(case hr=>first|(go_simp;done)|(go_simp;rfl));intro dS hg w4 cJ hb;have bB:=ah.mk (ay bN hb);have bL:=ah.mk (cJ);have bY:=ah.mk ((dz:w.heap.size≤dS));have cK:=ah.mk ((dz:w.heap.size≤dS));clear HB;have HB:=bB;have cj:=bL;have aah:=bY;have Ls:=cK;clear bB bL bY cK;clear hb cJ hg)|((with_reducible refine cC (N:=3) rfl ?_);(try (refine cO (by rfl) ?_;dsimp only));refine b9 ?hg (N:=3) ?hd (cs:=#[.int .u8 gu,.string jm,.bool gA,.slice oF iU.length oG,.string gB,.string jk,.bool jl,.slice oH ia.length oI]) (t:=35) ?hr ?_;(case hd=>rfl);(case hg=>rfl);(case hr=>first|(go_simp;done)|(go_simp;rfl));intro eB hg w5 cJ hb;have bB:=ah.mk (aM (g:=dS) (o:= .cells #[.int .u8 bg,.string bI,.bool bJ,.slice fk cM.length fo,.string bO,.string cU,.bool cV,.slice fC cg.length fq] 35 (0,0)) oX hb);have bL:=ah.mk (ay NV hb);have bY:=ah.mk (cJ);have cK:=ah.mk ((BL:w.heap.size≤eB));have gY:=ah.mk ((BL:w.heap.size≤eB));have jc:=ah.mk ((Iq:dS≠eB));have nH:=ah.mk ((Ir:eB≠dS));clear cj;clear HB;have cj:=bB;have HB:=bL;have cI:=bY;have aai:=cK;have Uf:=gY;have nS:=jc;have nT:=nH;clear bB bL bY cK gY jc nH;clear hb cJ hg)))
 (try simp only [Act.put,List.setIfInBounds_toArray,List.set_cons_zero,List.set_cons_succ])
 go_cut [34] (fun v34 wc=>∃ (kq:Nat) (QJ:Bool),v34= .bool QJ∧ah (aN.j0 kq QJ bg bI bJ cM bO cU cV cg gu jm gA iU gB jk jl ia=some r)∧ah (kq≤k)∧ah (wc.heap[dS]? =some (.cells #[.int .u8 bg,.string bI,.bool bJ,(.slice fk cM.length fo),.string bO,.string cU,.bool cV,(.slice fC cg.length fq)] 35 (0,0)))∧ah (wc.heap[eB]? =some (.cells #[.int .u8 gu,.string jm,.bool gA,(.slice oF iU.length oG),.string gB,.string jk,.bool jl,(.slice oH ia.length oI)] 35 (0,0)))∧ah (Below w.heap.size w wc))
 case first=>
  have H:=Vn.out
  clear Vn
  by_cases c6:bg=gu
  ·rw [if_pos c6] at H
   have pP:(bg == gu)=true:=beq_iff_eq.mpr c6
   have zC:(bg != gu)=false:=bne_eq_false_iff_eq.mpr c6
   clear c6
   (first|rw [pP]|(simp only [dx,dA];rw [pP])|skip)
   by_cases c7:bI.toList=jm.toList
   ·rw [if_pos c7] at H
    have GH:(bI.toList == jm.toList)=true:=beq_iff_eq.mpr c7
    have Ot:(bI.toList != jm.toList)=false:=bne_eq_false_iff_eq.mpr c7
    clear c7
    replace H:=Option.bind_eq_some_iff.mp H
    obtain ⟨t253,A80,H⟩:=H
    replace H:(if t253=true then (aN.j0 k ((cg.length:Int) != (ia.length:Int)) bg bI bJ cM bO cU cV cg gu jm gA iU gB jk jl ia) else (aN.j0 k true bg bI bJ cM bO cU cV cg gu jm gA iU gB jk jl ia))=some r:=H
    have A8:=ah.mk A80
    clear A80
    by_cases c9:t253=true
    ·subst c9
     have H1:(aN.j0 k ((cg.length:Int) != (ia.length:Int)) bg bI bJ cM bO cU cV cg gu jm gA iU gB jk jl ia)=some r:=by rw [if_pos rfl] at H;exact H
     clear H
     have H:=H1
     clear H1
     have H':=ah.mk H
     clear H
     have adN:=nS.out
     have adO:=nT.out
     have tD:w5.cell? ⟨dS,0,none⟩=some (.int .u8 bg):=(af cj.out 0).trans rfl
     have tE:w5.cell? ⟨dS,1,none⟩=some (.string bI):=(af cj.out 1).trans rfl
     have tF:w5.cell? ⟨dS,2,none⟩=some (.bool bJ):=(af cj.out 2).trans rfl
     have yh:w5.cell? ⟨dS,3,none⟩=some (.slice fk cM.length fo):=(af cj.out 3).trans rfl
     have yj:w5.cell? ⟨dS,4,none⟩=some (.string bO):=(af cj.out 4).trans rfl
     have Av:w5.cell? ⟨dS,5,none⟩=some (.string cU):=(af cj.out 5).trans rfl
     have Aw:w5.cell? ⟨dS,6,none⟩=some (.bool cV):=(af cj.out 6).trans rfl
     have Ax:w5.cell? ⟨dS,7,none⟩=some (.slice fC cg.length fq):=(af cj.out 7).trans rfl
     have tG:=aa cj.out 0
     have tH:=aa cj.out 1
     have tI:=aa cj.out 2
     have yl:=aa cj.out 3
     have ym:=aa cj.out 4
     have Ay:=aa cj.out 5
     have Az:=aa cj.out 6
     have AA:=aa cj.out 7
     have u7:w5.cell? ⟨eB,0,none⟩=some (.int .u8 gu):=(af cI.out 0).trans rfl
     have u9:w5.cell? ⟨eB,1,none⟩=some (.string jm):=(af cI.out 1).trans rfl
     have yf:w5.cell? ⟨eB,2,none⟩=some (.bool gA):=(af cI.out 2).trans rfl
     have Ak:w5.cell? ⟨eB,3,none⟩=some (.slice oF iU.length oG):=(af cI.out 3).trans rfl
     have Al:w5.cell? ⟨eB,4,none⟩=some (.string gB):=(af cI.out 4).trans rfl
     have QK:w5.cell? ⟨eB,5,none⟩=some (.string jk):=(af cI.out 5).trans rfl
     have QL:w5.cell? ⟨eB,6,none⟩=some (.bool jl):=(af cI.out 6).trans rfl
     have QM:w5.cell? ⟨eB,7,none⟩=some (.slice oH ia.length oI):=(af cI.out 7).trans rfl
     have vk:=aa cI.out 0
     have vo:=aa cI.out 1
     have yg:=aa cI.out 2
     have Am:=aa cI.out 3
     have Ao:=aa cI.out 4
     have QN:=aa cI.out 5
     have QO:=aa cI.out 6
     have QS:=aa cI.out 7
     go_wp2_with (first|(go_at_call 18;(with_reducible refine (bH.calls k bJ _ _ cM bO cU cV gA _ _ iU gB jk jl true _ ?aX ?bT ?eo ?fS A8.out).mono ?_);(case aX=>repeat (first|exact (Kd.fy nI.out HB.out)|(with_reducible refine Kd.eJ ?_ _)|(with_reducible refine Kd.eK ?_ _)|(with_reducible refine Kd.fR ?_)));(case bT=>exact nJ.out);(case eo=>repeat (first|exact (Kd.fy CJ.out HB.out)|(with_reducible refine Kd.eJ ?_ _)|(with_reducible refine Kd.eK ?_ _)|(with_reducible refine Kd.fR ?_)));(case fS=>exact CK.out);rintro e mA ⟨rfl,hb⟩;have bB:=ah.mk (aM (g:=dS) (o:= .cells #[.int .u8 bg,.string bI,.bool bJ,.slice fk cM.length fo,.string bO,.string cU,.bool cV,.slice fC cg.length fq] 35 (0,0)) oX hb);have bL:=ah.mk (aM (g:=eB) (o:= .cells #[.int .u8 gu,.string jm,.bool gA,.slice oF iU.length oG,.string gB,.string jk,.bool jl,.slice oH ia.length oI] 35 (0,0)) rI hb);have bY:=ah.mk (ay oW hb);clear cj;clear cI;clear HB;have cj:=bB;have cI:=bL;have HB:=bY;clear bB bL bY;(try clear hb);(try clear hb2);(try clear hk);(try clear hi);have rP:mA.cell? ⟨dS,0,none⟩=some (.int .u8 bg):=(af cj.out 0).trans rfl;have rQ:mA.cell? ⟨dS,1,none⟩=some (.string bI):=(af cj.out 1).trans rfl;have tJ:mA.cell? ⟨dS,2,none⟩=some (.bool bJ):=(af cj.out 2).trans rfl;have tK:mA.cell? ⟨dS,3,none⟩=some (.slice fk cM.length fo):=(af cj.out 3).trans rfl;have tL:mA.cell? ⟨dS,4,none⟩=some (.string bO):=(af cj.out 4).trans rfl;have tM:mA.cell? ⟨dS,5,none⟩=some (.string cU):=(af cj.out 5).trans rfl;have tO:mA.cell? ⟨dS,6,none⟩=some (.bool cV):=(af cj.out 6).trans rfl;have tP:mA.cell? ⟨dS,7,none⟩=some (.slice fC cg.length fq):=(af cj.out 7).trans rfl;have rR:=aa cj.out 0;have rS:=aa cj.out 1;have tQ:=aa cj.out 2;have tR:=aa cj.out 3;have tS:=aa cj.out 4;have tT:=aa cj.out 5;have tU:=aa cj.out 6;have tV:=aa cj.out 7;have vw:mA.cell? ⟨eB,0,none⟩=some (.int .u8 gu):=(af cI.out 0).trans rfl;have vA:mA.cell? ⟨eB,1,none⟩=some (.string jm):=(af cI.out 1).trans rfl;have vB:mA.cell? ⟨eB,2,none⟩=some (.bool gA):=(af cI.out 2).trans rfl;have vC:mA.cell? ⟨eB,3,none⟩=some (.slice oF iU.length oG):=(af cI.out 3).trans rfl;have vD:mA.cell? ⟨eB,4,none⟩=some (.string gB):=(af cI.out 4).trans rfl;have D9:mA.cell? ⟨eB,5,none⟩=some (.string jk):=(af cI.out 5).trans rfl;have Ea:mA.cell? ⟨eB,6,none⟩=some (.bool jl):=(af cI.out 6).trans rfl;have Eb:mA.cell? ⟨eB,7,none⟩=some (.slice oH ia.length oI):=(af cI.out 7).trans rfl;have vE:=aa cI.out 0;have vF:=aa cI.out 1;have vG:=aa cI.out 2;have vH:=aa cI.out 3;have vI:=aa cI.out 4;have Ec:=aa cI.out 5;have Ed:=aa cI.out 6;have Ee:=aa cI.out 7))
     repeat (go_quiet (first|(go_at_call 18;(with_reducible refine (bH.calls k bJ _ _ cM bO cU cV gA _ _ iU gB jk jl true _ ?aX ?bT ?eo ?fS A8.out).mono ?_);(case aX=>repeat (first|exact (Kd.fy nI.out HB.out)|(with_reducible refine Kd.eJ ?_ _)|(with_reducible refine Kd.eK ?_ _)|(with_reducible refine Kd.fR ?_)));(case bT=>exact nJ.out);(case eo=>repeat (first|exact (Kd.fy CJ.out HB.out)|(with_reducible refine Kd.eJ ?_ _)|(with_reducible refine Kd.eK ?_ _)|(with_reducible refine Kd.fR ?_)));(case fS=>exact CK.out);rintro e mA ⟨rfl,hb⟩;have bB:=ah.mk (aM (g:=dS) (o:= .cells #[.int .u8 bg,.string bI,.bool bJ,.slice fk cM.length fo,.string bO,.string cU,.bool cV,.slice fC cg.length fq] 35 (0,0)) oX hb);have bL:=ah.mk (aM (g:=eB) (o:= .cells #[.int .u8 gu,.string jm,.bool gA,.slice oF iU.length oG,.string gB,.string jk,.bool jl,.slice oH ia.length oI] 35 (0,0)) rI hb);have bY:=ah.mk (ay oW hb);clear cj;clear cI;clear HB;have cj:=bB;have cI:=bL;have HB:=bY;clear bB bL bY;(try clear hb);(try clear hb2);(try clear hk);(try clear hi);have rP:mA.cell? ⟨dS,0,none⟩=some (.int .u8 bg):=(af cj.out 0).trans rfl;have rQ:mA.cell? ⟨dS,1,none⟩=some (.string bI):=(af cj.out 1).trans rfl;have tJ:mA.cell? ⟨dS,2,none⟩=some (.bool bJ):=(af cj.out 2).trans rfl;have tK:mA.cell? ⟨dS,3,none⟩=some (.slice fk cM.length fo):=(af cj.out 3).trans rfl;have tL:mA.cell? ⟨dS,4,none⟩=some (.string bO):=(af cj.out 4).trans rfl;have tM:mA.cell? ⟨dS,5,none⟩=some (.string cU):=(af cj.out 5).trans rfl;have tO:mA.cell? ⟨dS,6,none⟩=some (.bool cV):=(af cj.out 6).trans rfl;have tP:mA.cell? ⟨dS,7,none⟩=some (.slice fC cg.length fq):=(af cj.out 7).trans rfl;have rR:=aa cj.out 0;have rS:=aa cj.out 1;have tQ:=aa cj.out 2;have tR:=aa cj.out 3;have tS:=aa cj.out 4;have tT:=aa cj.out 5;have tU:=aa cj.out 6;have tV:=aa cj.out 7;have vw:mA.cell? ⟨eB,0,none⟩=some (.int .u8 gu):=(af cI.out 0).trans rfl;have vA:mA.cell? ⟨eB,1,none⟩=some (.string jm):=(af cI.out 1).trans rfl;have vB:mA.cell? ⟨eB,2,none⟩=some (.bool gA):=(af cI.out 2).trans rfl;have vC:mA.cell? ⟨eB,3,none⟩=some (.slice oF iU.length oG):=(af cI.out 3).trans rfl;have vD:mA.cell? ⟨eB,4,none⟩=some (.string gB):=(af cI.out 4).trans rfl;have D9:mA.cell? ⟨eB,5,none⟩=some (.string jk):=(af cI.out 5).trans rfl;have Ea:mA.cell? ⟨eB,6,none⟩=some (.bool jl):=(af cI.out 6).trans rfl;have Eb:mA.cell? ⟨eB,7,none⟩=some (.slice oH ia.length oI):=(af cI.out 7).trans rfl;have vE:=aa cI.out 0;have vF:=aa cI.out 1;have vG:=aa cI.out 2;have vH:=aa cI.out 3;have vI:=aa cI.out 4;have Ec:=aa cI.out 5;have Ed:=aa cI.out 6;have Ee:=aa cI.out 7));try go_wp2_with (first|(go_at_call 18;(with_reducible refine (bH.calls k bJ _ _ cM bO cU cV gA _ _ iU gB jk jl true _ ?aX ?bT ?eo ?fS A8.out).mono ?_);(case aX=>repeat (first|exact (Kd.fy nI.out HB.out)|(with_reducible refine Kd.eJ ?_ _)|(with_reducible refine Kd.eK ?_ _)|(with_reducible refine Kd.fR ?_)));(case bT=>exact nJ.out);(case eo=>repeat (first|exact (Kd.fy CJ.out HB.out)|(with_reducible refine Kd.eJ ?_ _)|(with_reducible refine Kd.eK ?_ _)|(with_reducible refine Kd.fR ?_)));(case fS=>exact CK.out);rintro e mA ⟨rfl,hb⟩;have bB:=ah.mk (aM (g:=dS) (o:= .cells #[.int .u8 bg,.string bI,.bool bJ,.slice fk cM.length fo,.string bO,.string cU,.bool cV,.slice fC cg.length fq] 35 (0,0)) oX hb);have bL:=ah.mk (aM (g:=eB) (o:= .cells #[.int .u8 gu,.string jm,.bool gA,.slice oF iU.length oG,.string gB,.string jk,.bool jl,.slice oH ia.length oI] 35 (0,0)) rI hb);have bY:=ah.mk (ay oW hb);clear cj;clear cI;clear HB;have cj:=bB;have cI:=bL;have HB:=bY;clear bB bL bY;(try clear hb);(try clear hb2);(try clear hk);(try clear hi);have rP:mA.cell? ⟨dS,0,none⟩=some (.int .u8 bg):=(af cj.out 0).trans rfl;have rQ:mA.cell? ⟨dS,1,none⟩=some (.string bI):=(af cj.out 1).trans rfl;have tJ:mA.cell? ⟨dS,2,none⟩=some (.bool bJ):=(af cj.out 2).trans rfl;have tK:mA.cell? ⟨dS,3,none⟩=some (.slice fk cM.length fo):=(af cj.out 3).trans rfl;have tL:mA.cell? ⟨dS,4,none⟩=some (.string bO):=(af cj.out 4).trans rfl;have tM:mA.cell? ⟨dS,5,none⟩=some (.string cU):=(af cj.out 5).trans rfl;have tO:mA.cell? ⟨dS,6,none⟩=some (.bool cV):=(af cj.out 6).trans rfl;have tP:mA.cell? ⟨dS,7,none⟩=some (.slice fC cg.length fq):=(af cj.out 7).trans rfl;have rR:=aa cj.out 0;have rS:=aa cj.out 1;have tQ:=aa cj.out 2;have tR:=aa cj.out 3;have tS:=aa cj.out 4;have tT:=aa cj.out 5;have tU:=aa cj.out 6;have tV:=aa cj.out 7;have vw:mA.cell? ⟨eB,0,none⟩=some (.int .u8 gu):=(af cI.out 0).trans rfl;have vA:mA.cell? ⟨eB,1,none⟩=some (.string jm):=(af cI.out 1).trans rfl;have vB:mA.cell? ⟨eB,2,none⟩=some (.bool gA):=(af cI.out 2).trans rfl;have vC:mA.cell? ⟨eB,3,none⟩=some (.slice oF iU.length oG):=(af cI.out 3).trans rfl;have vD:mA.cell? ⟨eB,4,none⟩=some (.string gB):=(af cI.out 4).trans rfl;have D9:mA.cell? ⟨eB,5,none⟩=some (.string jk):=(af cI.out 5).trans rfl;have Ea:mA.cell? ⟨eB,6,none⟩=some (.bool jl):=(af cI.out 6).trans rfl;have Eb:mA.cell? ⟨eB,7,none⟩=some (.slice oH ia.length oI):=(af cI.out 7).trans rfl;have vE:=aa cI.out 0;have vF:=aa cI.out 1;have vG:=aa cI.out 2;have vH:=aa cI.out 3;have vI:=aa cI.out 4;have Ec:=aa cI.out 5;have Ed:=aa cI.out 6;have Ee:=aa cI.out 7)))
     go_meet
     case rel=>exact ⟨_,(((cg.length:Int) != (ia.length:Int))),ey,H',⟨lU⟩,⟨oX⟩,⟨rI⟩,⟨oW⟩⟩
    ·replace c9:=Bool.eq_false_iff.mpr c9
     subst c9
     have H1:(aN.j0 k true bg bI bJ cM bO cU cV cg gu jm gA iU gB jk jl ia)=some r:=by rw [if_neg (show ¬ (false=true) by decide)] at H;exact H
     clear H
     have H:=H1
     clear H1
     have H':=ah.mk H
     clear H
     have aob:=nS.out
     have aoc:=nT.out
     have tW:w5.cell? ⟨dS,0,none⟩=some (.int .u8 bg):=(af cj.out 0).trans rfl
     have tX:w5.cell? ⟨dS,1,none⟩=some (.string bI):=(af cj.out 1).trans rfl
     have AB:w5.cell? ⟨dS,2,none⟩=some (.bool bJ):=(af cj.out 2).trans rfl
     have Jt:w5.cell? ⟨dS,3,none⟩=some (.slice fk cM.length fo):=(af cj.out 3).trans rfl
     have Ju:w5.cell? ⟨dS,4,none⟩=some (.string bO):=(af cj.out 4).trans rfl
     have Jv:w5.cell? ⟨dS,5,none⟩=some (.string cU):=(af cj.out 5).trans rfl
     have Jw:w5.cell? ⟨dS,6,none⟩=some (.bool cV):=(af cj.out 6).trans rfl
     have Jx:w5.cell? ⟨dS,7,none⟩=some (.slice fC cg.length fq):=(af cj.out 7).trans rfl
     have tY:=aa cj.out 0
     have tZ:=aa cj.out 1
     have AE:=aa cj.out 2
     have Jy:=aa cj.out 3
     have Jz:=aa cj.out 4
     have JA:=aa cj.out 5
     have JB:=aa cj.out 6
     have JC:=aa cj.out 7
     have yq:w5.cell? ⟨eB,0,none⟩=some (.int .u8 gu):=(af cI.out 0).trans rfl
     have yt:w5.cell? ⟨eB,1,none⟩=some (.string jm):=(af cI.out 1).trans rfl
     have AG:w5.cell? ⟨eB,2,none⟩=some (.bool gA):=(af cI.out 2).trans rfl
     have JD:w5.cell? ⟨eB,3,none⟩=some (.slice oF iU.length oG):=(af cI.out 3).trans rfl
     have JE:w5.cell? ⟨eB,4,none⟩=some (.string gB):=(af cI.out 4).trans rfl
     have QT:w5.cell? ⟨eB,5,none⟩=some (.string jk):=(af cI.out 5).trans rfl
     have QU:w5.cell? ⟨eB,6,none⟩=some (.bool jl):=(af cI.out 6).trans rfl
     have QV:w5.cell? ⟨eB,7,none⟩=some (.slice oH ia.length oI):=(af cI.out 7).trans rfl
     have yu:=aa cI.out 0
     have yw:=aa cI.out 1
     have AH:=aa cI.out 2
     have JF:=aa cI.out 3
     have JG:=aa cI.out 4
     have QW:=aa cI.out 5
     have QX:=aa cI.out 6
     have QY:=aa cI.out 7
     go_wp2_with (first|(go_at_call 18;(with_reducible refine (bH.calls k bJ _ _ cM bO cU cV gA _ _ iU gB jk jl false _ ?aX ?bT ?eo ?fS A8.out).mono ?_);(case aX=>repeat (first|exact (Kd.fy nI.out HB.out)|(with_reducible refine Kd.eJ ?_ _)|(with_reducible refine Kd.eK ?_ _)|(with_reducible refine Kd.fR ?_)));(case bT=>exact nJ.out);(case eo=>repeat (first|exact (Kd.fy CJ.out HB.out)|(with_reducible refine Kd.eJ ?_ _)|(with_reducible refine Kd.eK ?_ _)|(with_reducible refine Kd.fR ?_)));(case fS=>exact CK.out);rintro e ze ⟨rfl,hb⟩;have bB:=ah.mk (aM (g:=dS) (o:= .cells #[.int .u8 bg,.string bI,.bool bJ,.slice fk cM.length fo,.string bO,.string cU,.bool cV,.slice fC cg.length fq] 35 (0,0)) oX hb);have bL:=ah.mk (aM (g:=eB) (o:= .cells #[.int .u8 gu,.string jm,.bool gA,.slice oF iU.length oG,.string gB,.string jk,.bool jl,.slice oH ia.length oI] 35 (0,0)) rI hb);have bY:=ah.mk (ay oW hb);clear cj;clear cI;clear HB;have cj:=bB;have cI:=bL;have HB:=bY;clear bB bL bY;(try clear hb);(try clear hb2);(try clear hk);(try clear hi)))
     repeat (go_quiet (first|(go_at_call 18;(with_reducible refine (bH.calls k bJ _ _ cM bO cU cV gA _ _ iU gB jk jl false _ ?aX ?bT ?eo ?fS A8.out).mono ?_);(case aX=>repeat (first|exact (Kd.fy nI.out HB.out)|(with_reducible refine Kd.eJ ?_ _)|(with_reducible refine Kd.eK ?_ _)|(with_reducible refine Kd.fR ?_)));(case bT=>exact nJ.out);(case eo=>repeat (first|exact (Kd.fy CJ.out HB.out)|(with_reducible refine Kd.eJ ?_ _)|(with_reducible refine Kd.eK ?_ _)|(with_reducible refine Kd.fR ?_)));(case fS=>exact CK.out);rintro e ze ⟨rfl,hb⟩;have bB:=ah.mk (aM (g:=dS) (o:= .cells #[.int .u8 bg,.string bI,.bool bJ,.slice fk cM.length fo,.string bO,.string cU,.bool cV,.slice fC cg.length fq] 35 (0,0)) oX hb);have bL:=ah.mk (aM (g:=eB) (o:= .cells #[.int .u8 gu,.string jm,.bool gA,.slice oF iU.length oG,.string gB,.string jk,.bool jl,.slice oH ia.length oI] 35 (0,0)) rI hb);have bY:=ah.mk (ay oW hb);clear cj;clear cI;clear HB;have cj:=bB;have cI:=bL;have HB:=bY;clear bB bL bY;(try clear hb);(try clear hb2);(try clear hk);(try clear hi)));try go_wp2_with (first|(go_at_call 18;(with_reducible refine (bH.calls k bJ _ _ cM bO cU cV gA _ _ iU gB jk jl false _ ?aX ?bT ?eo ?fS A8.out).mono ?_);(case aX=>repeat (first|exact (Kd.fy nI.out HB.out)|(with_reducible refine Kd.eJ ?_ _)|(with_reducible refine Kd.eK ?_ _)|(with_reducible refine Kd.fR ?_)));(case bT=>exact nJ.out);(case eo=>repeat (first|exact (Kd.fy CJ.out HB.out)|(with_reducible refine Kd.eJ ?_ _)|(with_reducible refine Kd.eK ?_ _)|(with_reducible refine Kd.fR ?_)));(case fS=>exact CK.out);rintro e ze ⟨rfl,hb⟩;have bB:=ah.mk (aM (g:=dS) (o:= .cells #[.int .u8 bg,.string bI,.bool bJ,.slice fk cM.length fo,.string bO,.string cU,.bool cV,.slice fC cg.length fq] 35 (0,0)) oX hb);have bL:=ah.mk (aM (g:=eB) (o:= .cells #[.int .u8 gu,.string jm,.bool gA,.slice oF iU.length oG,.string gB,.string jk,.bool jl,.slice oH ia.length oI] 35 (0,0)) rI hb);have bY:=ah.mk (ay oW hb);clear cj;clear cI;clear HB;have cj:=bB;have cI:=bL;have HB:=bY;clear bB bL bY;(try clear hb);(try clear hb2);(try clear hk);(try clear hi))))
     go_meet
     case rel=>exact ⟨_,(true),ey,H',⟨lU⟩,⟨oX⟩,⟨rI⟩,⟨oW⟩⟩
   ·rw [if_neg c7] at H
    have GH:(bI.toList == jm.toList)=false:=beq_eq_false_iff_ne.mpr c7
    have Ot:(bI.toList != jm.toList)=true:=bne_iff_ne.mpr c7
    have H':=ah.mk H
    clear H
    have adP:=nS.out
    have adQ:=nT.out
    have vM:w5.cell? ⟨dS,0,none⟩=some (.int .u8 bg):=(af cj.out 0).trans rfl
    have vN:w5.cell? ⟨dS,1,none⟩=some (.string bI):=(af cj.out 1).trans rfl
    have vO:w5.cell? ⟨dS,2,none⟩=some (.bool bJ):=(af cj.out 2).trans rfl
    have AJ:w5.cell? ⟨dS,3,none⟩=some (.slice fk cM.length fo):=(af cj.out 3).trans rfl
    have AK:w5.cell? ⟨dS,4,none⟩=some (.string bO):=(af cj.out 4).trans rfl
    have Ef:w5.cell? ⟨dS,5,none⟩=some (.string cU):=(af cj.out 5).trans rfl
    have Eg:w5.cell? ⟨dS,6,none⟩=some (.bool cV):=(af cj.out 6).trans rfl
    have Eh:w5.cell? ⟨dS,7,none⟩=some (.slice fC cg.length fq):=(af cj.out 7).trans rfl
    have vP:=aa cj.out 0
    have vQ:=aa cj.out 1
    have vR:=aa cj.out 2
    have AL:=aa cj.out 3
    have AO:=aa cj.out 4
    have Ei:=aa cj.out 5
    have Ej:=aa cj.out 6
    have Ek:=aa cj.out 7
    have yx:w5.cell? ⟨eB,0,none⟩=some (.int .u8 gu):=(af cI.out 0).trans rfl
    have yz:w5.cell? ⟨eB,1,none⟩=some (.string jm):=(af cI.out 1).trans rfl
    have AP:w5.cell? ⟨eB,2,none⟩=some (.bool gA):=(af cI.out 2).trans rfl
    have JH:w5.cell? ⟨eB,3,none⟩=some (.slice oF iU.length oG):=(af cI.out 3).trans rfl
    have JI:w5.cell? ⟨eB,4,none⟩=some (.string gB):=(af cI.out 4).trans rfl
    have QZ:w5.cell? ⟨eB,5,none⟩=some (.string jk):=(af cI.out 5).trans rfl
    have Q0:w5.cell? ⟨eB,6,none⟩=some (.bool jl):=(af cI.out 6).trans rfl
    have Q3:w5.cell? ⟨eB,7,none⟩=some (.slice oH ia.length oI):=(af cI.out 7).trans rfl
    have yA:=aa cI.out 0
    have yB:=aa cI.out 1
    have AQ:=aa cI.out 2
    have JJ:=aa cI.out 3
    have JK:=aa cI.out 4
    have Q4:=aa cI.out 5
    have Q5:=aa cI.out 6
    have Q6:=aa cI.out 7
    go_wp2
    repeat (go_quiet (fail);try go_wp2)
    go_meet
    case rel=>exact ⟨_,(true),ey,H',⟨lU⟩,⟨oX⟩,⟨rI⟩,⟨oW⟩⟩
  ·rw [if_neg c6] at H
   have pP:(bg == gu)=false:=beq_eq_false_iff_ne.mpr c6
   have zC:(bg != gu)=true:=bne_iff_ne.mpr c6
   (first|rw [pP]|(simp only [dx,dA];rw [pP])|skip)
   have H':=ah.mk H
   clear H
   have adR:=nS.out
   have adS:=nT.out
   have vS:w5.cell? ⟨dS,0,none⟩=some (.int .u8 bg):=(af cj.out 0).trans rfl
   have vT:w5.cell? ⟨dS,1,none⟩=some (.string bI):=(af cj.out 1).trans rfl
   have El:w5.cell? ⟨dS,2,none⟩=some (.bool bJ):=(af cj.out 2).trans rfl
   have Em:w5.cell? ⟨dS,3,none⟩=some (.slice fk cM.length fo):=(af cj.out 3).trans rfl
   have En:w5.cell? ⟨dS,4,none⟩=some (.string bO):=(af cj.out 4).trans rfl
   have Eo:w5.cell? ⟨dS,5,none⟩=some (.string cU):=(af cj.out 5).trans rfl
   have Ep:w5.cell? ⟨dS,6,none⟩=some (.bool cV):=(af cj.out 6).trans rfl
   have Er:w5.cell? ⟨dS,7,none⟩=some (.slice fC cg.length fq):=(af cj.out 7).trans rfl
   have vU:=aa cj.out 0
   have vV:=aa cj.out 1
   have Es:=aa cj.out 2
   have Et:=aa cj.out 3
   have Eu:=aa cj.out 4
   have Ew:=aa cj.out 5
   have Ex:=aa cj.out 6
   have Ey:=aa cj.out 7
   have ud:w5.cell? ⟨eB,0,none⟩=some (.int .u8 gu):=(af cI.out 0).trans rfl
   have ue:w5.cell? ⟨eB,1,none⟩=some (.string jm):=(af cI.out 1).trans rfl
   have uf:w5.cell? ⟨eB,2,none⟩=some (.bool gA):=(af cI.out 2).trans rfl
   have yC:w5.cell? ⟨eB,3,none⟩=some (.slice oF iU.length oG):=(af cI.out 3).trans rfl
   have yD:w5.cell? ⟨eB,4,none⟩=some (.string gB):=(af cI.out 4).trans rfl
   have Q7:w5.cell? ⟨eB,5,none⟩=some (.string jk):=(af cI.out 5).trans rfl
   have Q8:w5.cell? ⟨eB,6,none⟩=some (.bool jl):=(af cI.out 6).trans rfl
   have Q9:w5.cell? ⟨eB,7,none⟩=some (.slice oH ia.length oI):=(af cI.out 7).trans rfl
   have ug:=aa cI.out 0
   have uh:=aa cI.out 1
   have uj:=aa cI.out 2
   have yE:=aa cI.out 3
   have yF:=aa cI.out 4
   have Ra:=aa cI.out 5
   have Rb:=aa cI.out 6
   have Rc:=aa cI.out 7
   go_wp2
   repeat (go_quiet (fail);try go_wp2)
   go_meet
   case rel=>exact ⟨_,(true),ey,H',⟨lU⟩,⟨oX⟩,⟨rI⟩,⟨oW⟩⟩
 case rest=>
  clear Vn
  try clear c1
  try clear c2
  try clear p2
  try clear c3
  try clear c6
  try clear pP
  try clear zC
  try clear c7
  try clear GH
  try clear Ot
  try clear c9
  try clear c10
  try clear c16
  try clear c20
  try clear Vo
  try clear tD
  try clear tE
  try clear tF
  try clear yh
  try clear yj
  try clear Av
  try clear Aw
  try clear Ax
  try clear u7
  try clear u9
  try clear yf
  try clear Ak
  try clear Al
  try clear QK
  try clear QL
  try clear QM
  try clear rP
  try clear rQ
  try clear tJ
  try clear tK
  try clear tL
  try clear tM
  try clear tO
  try clear tP
  try clear vw
  try clear vA
  try clear vB
  try clear vC
  try clear vD
  try clear D9
  try clear Ea
  try clear Eb
  try clear tW
  try clear tX
  try clear AB
  try clear Jt
  try clear Ju
  try clear Jv
  try clear Jw
  try clear Jx
  try clear yq
  try clear yt
  try clear AG
  try clear JD
  try clear JE
  try clear QT
  try clear QU
  try clear QV
  try clear vM
  try clear vN
  try clear vO
  try clear AJ
  try clear AK
  try clear Ef
  try clear Eg
  try clear Eh
  try clear yx
  try clear yz
  try clear AP
  try clear JH
  try clear JI
  try clear QZ
  try clear Q0
  try clear Q3
  try clear vS
  try clear vT
  try clear El
  try clear Em
  try clear En
  try clear Eo
  try clear Ep
  try clear Er
  try clear ud
  try clear ue
  try clear uf
  try clear yC
  try clear yD
  try clear Q7
  try clear Q8
  try clear Q9
  try clear tG
  try clear tH
  try clear tI
  try clear yl
  try clear ym
  try clear Ay
  try clear Az
  try clear AA
  try clear vk
  try clear vo
  try clear yg
  try clear Am
  try clear Ao
  try clear QN
  try clear QO
  try clear QS
  try clear rR
  try clear rS
  try clear tQ
  try clear tR
  try clear tS
  try clear tT
  try clear tU
  try clear tV
  try clear vE
  try clear vF
  try clear vG
  try clear vH
  try clear vI
  try clear Ec
  try clear Ed
  try clear Ee
  try clear tY
  try clear tZ
  try clear AE
  try clear Jy
  try clear Jz
  try clear JA
  try clear JB
  try clear JC
  try clear yu
  try clear yw
  try clear AH
  try clear JF
  try clear JG
  try clear QW
  try clear QX
  try clear QY
  try clear vP
  try clear vQ
  try clear vR
  try clear AL
  try clear AO
  try clear Ei
  try clear Ej
  try clear Ek
  try clear yA
  try clear yB
  try clear AQ
  try clear JJ
  try clear JK
  try clear Q4
  try clear Q5
  try clear Q6
  try clear vU
  try clear vV
  try clear Es
  try clear Et
  try clear Eu
  try clear Ew
  try clear Ex
  try clear Ey
  try clear ug
  try clear uh
  try clear uj
  try clear yE
  try clear yF
  try clear Ra
  try clear Rb
  try clear Rc
  obtain ⟨kq,QJ,rfl,HA,HJ2,cj,cI,HB⟩:=hcut
  cases kq with
  |zero=>exact absurd HA.out (by simp [aN.j0])
  |succ Di=>
   have H:=HA.out
   clear HA
   simp only [aN.j0] at H
   by_cases T6:QJ=true
   ·subst T6
    have H1:(some false)=some r:=by rw [if_pos rfl] at H;exact H
    clear H
    have H:=H1
    clear H1
    obtain rfl:=Option.some.inj H
    go_wp2
    repeat (go_quiet (fail);try go_wp2)
    go_ret
    exact ⟨cR,oW⟩
   ·replace T6:=Bool.eq_false_iff.mpr T6
    subst T6
    have H1:(aN.l0 Di (cg.length:Int) 0 bg bI bJ cM bO cU cV cg gu jm gA iU gB jk jl ia)=some r:=by rw [if_neg (show ¬ (false=true) by decide)] at H;exact H
    clear H
    have H:=H1
    clear H1
    have H':=ah.mk H
    clear H
    have aaj:=nS.out
    have aak:=nT.out
    have Ez:wc.cell? ⟨dS,0,none⟩=some (.int .u8 bg):=(af cj.out 0).trans rfl
    have EA:wc.cell? ⟨dS,1,none⟩=some (.string bI):=(af cj.out 1).trans rfl
    have EB:wc.cell? ⟨dS,2,none⟩=some (.bool bJ):=(af cj.out 2).trans rfl
    have JL:wc.cell? ⟨dS,3,none⟩=some (.slice fk cM.length fo):=(af cj.out 3).trans rfl
    have JM:wc.cell? ⟨dS,4,none⟩=some (.string bO):=(af cj.out 4).trans rfl
    have JN:wc.cell? ⟨dS,5,none⟩=some (.string cU):=(af cj.out 5).trans rfl
    have JO:wc.cell? ⟨dS,6,none⟩=some (.bool cV):=(af cj.out 6).trans rfl
    have JP:wc.cell? ⟨dS,7,none⟩=some (.slice fC cg.length fq):=(af cj.out 7).trans rfl
    have EC:=aa cj.out 0
    have ED:=aa cj.out 1
    have EE:=aa cj.out 2
    have JQ:=aa cj.out 3
    have JR:=aa cj.out 4
    have JS:=aa cj.out 5
    have JT:=aa cj.out 6
    have JU:=aa cj.out 7
    go_wp2
    repeat (go_quiet (fail);try go_wp2)
    go_loopg [38] Di (fun kq v38 w'=>∃ (iZ:Int),v38= .int .i64 iZ∧ah (aN.l0 kq (cg.length:Int) iZ bg bI bJ cM bO cU cV cg gu jm gA iU gB jk jl ia=some r)∧ah (kq≤Di)∧ah (w'.heap[dS]? =some (.cells #[.int .u8 bg,.string bI,.bool bJ,(.slice fk cM.length fo),.string bO,.string cU,.bool cV,(.slice fC cg.length fq)] 35 (0,0)))∧ah (w'.heap[eB]? =some (.cells #[.int .u8 gu,.string jm,.bool gA,(.slice oF iU.length oG),.string gB,.string jk,.bool jl,(.slice oH ia.length oI)] 35 (0,0)))∧ah (Below w.heap.size w w'))
    case atStart=>exact ⟨(0),ey,H',⟨Nat.le_refl _⟩,⟨oX⟩,⟨rI⟩,⟨oW⟩⟩
    case round=>
     clear H'
     try clear c1
     try clear c2
     try clear p2
     try clear c3
     try clear c6
     try clear pP
     try clear zC
     try clear c7
     try clear GH
     try clear Ot
     try clear c9
     try clear c10
     try clear c16
     try clear c20
     try clear Vo
     try clear T6
     try clear Re
     try clear tD
     try clear tE
     try clear tF
     try clear yh
     try clear yj
     try clear Av
     try clear Aw
     try clear Ax
     try clear u7
     try clear u9
     try clear yf
     try clear Ak
     try clear Al
     try clear QK
     try clear QL
     try clear QM
     try clear rP
     try clear rQ
     try clear tJ
     try clear tK
     try clear tL
     try clear tM
     try clear tO
     try clear tP
     try clear vw
     try clear vA
     try clear vB
     try clear vC
     try clear vD
     try clear D9
     try clear Ea
     try clear Eb
     try clear tW
     try clear tX
     try clear AB
     try clear Jt
     try clear Ju
     try clear Jv
     try clear Jw
     try clear Jx
     try clear yq
     try clear yt
     try clear AG
     try clear JD
     try clear JE
     try clear QT
     try clear QU
     try clear QV
     try clear vM
     try clear vN
     try clear vO
     try clear AJ
     try clear AK
     try clear Ef
     try clear Eg
     try clear Eh
     try clear yx
     try clear yz
     try clear AP
     try clear JH
     try clear JI
     try clear QZ
     try clear Q0
     try clear Q3
     try clear vS
     try clear vT
     try clear El
     try clear Em
     try clear En
     try clear Eo
     try clear Ep
     try clear Er
     try clear ud
     try clear ue
     try clear uf
     try clear yC
     try clear yD
     try clear Q7
     try clear Q8
     try clear Q9
     try clear Ez
     try clear EA
     try clear EB
     try clear JL
     try clear JM
     try clear JN
     try clear JO
     try clear JP
     try clear tG
     try clear tH
     try clear tI
     try clear yl
     try clear ym
     try clear Ay
     try clear Az
     try clear AA
     try clear vk
     try clear vo
     try clear yg
     try clear Am
     try clear Ao
     try clear QN
     try clear QO
     try clear QS
     try clear rR
     try clear rS
     try clear tQ
     try clear tR
     try clear tS
     try clear tT
     try clear tU
     try clear tV
     try clear vE
     try clear vF
     try clear vG
     try clear vH
     try clear vI
     try clear Ec
     try clear Ed
     try clear Ee
     try clear tY
     try clear tZ
     try clear AE
     try clear Jy
     try clear Jz
     try clear JA
     try clear JB
     try clear JC
     try clear yu
     try clear yw
     try clear AH
     try clear JF
     try clear JG
     try clear QW
     try clear QX
     try clear QY
     try clear vP
     try clear vQ
     try clear vR
     try clear AL
     try clear AO
     try clear Ei
     try clear Ej
     try clear Ek
     try clear yA
     try clear yB
     try clear AQ
     try clear JJ
     try clear JK
     try clear Q4
     try clear Q5
     try clear Q6
     try clear vU
     try clear vV
     try clear Es
     try clear Et
     try clear Eu
     try clear Ew
     try clear Ex
     try clear Ey
     try clear ug
     try clear uh
     try clear uj
     try clear yE
     try clear yF
     try clear Ra
     try clear Rb
     try clear Rc
     try clear EC
     try clear ED
     try clear EE
     try clear JQ
     try clear JR
     try clear JS
     try clear JT
     try clear JU
     try clear p2
     obtain ⟨iZ,rfl,HA,Oj,cj,cI,HB⟩:=hrel
     cases gk with
     |zero=>exact absurd HA.out (by simp [aN.l0])
     |succ k2=>
      have H:=HA.out
      clear HA
      simp only [aN.l0] at H
      by_cases T7:iZ < (cg.length:Int)
      ·rw [if_pos T7] at H
       have aal:decide (iZ < (cg.length:Int))=true:=decide_eq_true T7
       clear T7
       by_cases Ou: 0≤iZ
       ·rw [if_pos Ou] at H
        have adT:decide (0≤iZ)=true:=decide_eq_true Ou
        clear Ou
        by_cases c31:iZ < (cg.length:Int)
        ·rw [if_pos c31] at H
         have aod:decide (iZ < (cg.length:Int))=true:=decide_eq_true c31
         clear c31
         by_cases GI:iZ < (ia.length:Int)
         ·rw [if_pos GI] at H
          have LX:decide (iZ < (ia.length:Int))=true:=decide_eq_true GI
          clear GI
          by_cases JV:(!((((dL cg iZ).f0).toList) == (((dL ia iZ).f0).toList)) || (!((((dL cg iZ).f1).toList) == (((dL ia iZ).f1).toList)) || (!(((dL cg iZ).f2) == ((dL ia iZ).f2)))))=true
          ·rw [if_pos JV] at H
           have Rf:(!((((dL cg iZ).f0).toList) == (((dL ia iZ).f0).toList)) || (!((((dL cg iZ).f1).toList) == (((dL ia iZ).f1).toList)) || (!(((dL cg iZ).f2) == ((dL ia iZ).f2)))))=true:=JV
           clear JV
           obtain rfl:=Option.some.inj H
           have adU:=nS.out
           have adV:=nT.out
           have AR:wr.cell? ⟨dS,0,none⟩=some (.int .u8 bg):=(af cj.out 0).trans rfl
           have AU:wr.cell? ⟨dS,1,none⟩=some (.string bI):=(af cj.out 1).trans rfl
           have AV:wr.cell? ⟨dS,2,none⟩=some (.bool bJ):=(af cj.out 2).trans rfl
           have Rg:wr.cell? ⟨dS,3,none⟩=some (.slice fk cM.length fo):=(af cj.out 3).trans rfl
           have Rh:wr.cell? ⟨dS,4,none⟩=some (.string bO):=(af cj.out 4).trans rfl
           have XX:wr.cell? ⟨dS,5,none⟩=some (.string cU):=(af cj.out 5).trans rfl
           have XY:wr.cell? ⟨dS,6,none⟩=some (.bool cV):=(af cj.out 6).trans rfl
           have XZ:wr.cell? ⟨dS,7,none⟩=some (.slice fC cg.length fq):=(af cj.out 7).trans rfl
           have AW:=aa cj.out 0
           have AX:=aa cj.out 1
           have AY:=aa cj.out 2
           have Ri:=aa cj.out 3
           have Rj:=aa cj.out 4
           have X0:=aa cj.out 5
           have X3:=aa cj.out 6
           have X4:=aa cj.out 7
           have Ov: 0≤(iZ:Int):=of_decide_eq_true cW
           have Ow:iZ < (cg.length:Int):=of_decide_eq_true cW
           obtain ⟨adW,abu,vW,vX,vY⟩:=xe pW.out iZ Ov Ow
           cases abu
           replace vW:=(HB.out.cell (World.block_lt_of_cell? w _ vW)).trans vW
           replace vX:=(HB.out.cell (World.block_lt_of_cell? w _ vX)).trans vX
           replace vY:=(HB.out.cell (World.block_lt_of_cell? w _ vY)).trans vY
           replace Ov:=eq_true Ov
           replace Ow:=eq_true Ow
           have yG:wr.cell? ⟨eB,0,none⟩=some (.int .u8 gu):=(af cI.out 0).trans rfl
           have yH:wr.cell? ⟨eB,1,none⟩=some (.string jm):=(af cI.out 1).trans rfl
           have yI:wr.cell? ⟨eB,2,none⟩=some (.bool gA):=(af cI.out 2).trans rfl
           have JW:wr.cell? ⟨eB,3,none⟩=some (.slice oF iU.length oG):=(af cI.out 3).trans rfl
           have JX:wr.cell? ⟨eB,4,none⟩=some (.string gB):=(af cI.out 4).trans rfl
           have Rk:wr.cell? ⟨eB,5,none⟩=some (.string jk):=(af cI.out 5).trans rfl
           have Rl:wr.cell? ⟨eB,6,none⟩=some (.bool jl):=(af cI.out 6).trans rfl
           have Rm:wr.cell? ⟨eB,7,none⟩=some (.slice oH ia.length oI):=(af cI.out 7).trans rfl
           have yJ:=aa cI.out 0
           have yK:=aa cI.out 1
           have yL:=aa cI.out 2
           have JY:=aa cI.out 3
           have JZ:=aa cI.out 4
           have Rn:=aa cI.out 5
           have Ro:=aa cI.out 6
           have Rp:=aa cI.out 7
           have Ox: 0≤(iZ:Int):=of_decide_eq_true cW
           have Oy:iZ < (ia.length:Int):=of_decide_eq_true cW
           obtain ⟨adX,abv,vZ,wh,wj⟩:=xe QI.out iZ Ox Oy
           cases abv
           replace vZ:=(HB.out.cell (World.block_lt_of_cell? w _ vZ)).trans vZ
           replace wh:=(HB.out.cell (World.block_lt_of_cell? w _ wh)).trans wh
           replace wj:=(HB.out.cell (World.block_lt_of_cell? w _ wj)).trans wj
           replace Ox:=eq_true Ox
           replace Oy:=eq_true Oy
           go_wp2
           repeat (go_quiet (fail);try go_wp2)
           go_ret
           exact ⟨cR,oW⟩
          ·rw [if_neg JV] at H
           have Rf:(!((((dL cg iZ).f0).toList) == (((dL ia iZ).f0).toList)) || (!((((dL cg iZ).f1).toList) == (((dL ia iZ).f1).toList)) || (!(((dL cg iZ).f2) == ((dL ia iZ).f2)))))=false:=by simpa using JV
           clear JV
           have H':=ah.mk H
           clear H
           have aoe:=nS.out
           have aof:=nT.out
           have X5:wr.cell? ⟨dS,0,none⟩=some (.int .u8 bg):=(af cj.out 0).trans rfl
           have X6:wr.cell? ⟨dS,1,none⟩=some (.string bI):=(af cj.out 1).trans rfl
           have X7:wr.cell? ⟨dS,2,none⟩=some (.bool bJ):=(af cj.out 2).trans rfl
           have X8:wr.cell? ⟨dS,3,none⟩=some (.slice fk cM.length fo):=(af cj.out 3).trans rfl
           have X9:wr.cell? ⟨dS,4,none⟩=some (.string bO):=(af cj.out 4).trans rfl
           have ahr:wr.cell? ⟨dS,5,none⟩=some (.string cU):=(af cj.out 5).trans rfl
           have ahs:wr.cell? ⟨dS,6,none⟩=some (.bool cV):=(af cj.out 6).trans rfl
           have aht:wr.cell? ⟨dS,7,none⟩=some (.slice fC cg.length fq):=(af cj.out 7).trans rfl
           have Ya:=aa cj.out 0
           have Yb:=aa cj.out 1
           have Yc:=aa cj.out 2
           have Yd:=aa cj.out 3
           have Ye:=aa cj.out 4
           have ahu:=aa cj.out 5
           have ahv:=aa cj.out 6
           have ahw:=aa cj.out 7
           have Ov: 0≤(iZ:Int):=of_decide_eq_true cW
           have Ow:iZ < (cg.length:Int):=of_decide_eq_true cW
           obtain ⟨adW,abu,vW,vX,vY⟩:=xe pW.out iZ Ov Ow
           cases abu
           replace vW:=(HB.out.cell (World.block_lt_of_cell? w _ vW)).trans vW
           replace vX:=(HB.out.cell (World.block_lt_of_cell? w _ vX)).trans vX
           replace vY:=(HB.out.cell (World.block_lt_of_cell? w _ vY)).trans vY
           replace Ov:=eq_true Ov
           replace Ow:=eq_true Ow
           have AZ:wr.cell? ⟨eB,0,none⟩=some (.int .u8 gu):=(af cI.out 0).trans rfl
           have Ba:wr.cell? ⟨eB,1,none⟩=some (.string jm):=(af cI.out 1).trans rfl
           have Rq:wr.cell? ⟨eB,2,none⟩=some (.bool gA):=(af cI.out 2).trans rfl
           have Yf:wr.cell? ⟨eB,3,none⟩=some (.slice oF iU.length oG):=(af cI.out 3).trans rfl
           have Yg:wr.cell? ⟨eB,4,none⟩=some (.string gB):=(af cI.out 4).trans rfl
           have Yh:wr.cell? ⟨eB,5,none⟩=some (.string jk):=(af cI.out 5).trans rfl
           have Yi:wr.cell? ⟨eB,6,none⟩=some (.bool jl):=(af cI.out 6).trans rfl
           have Yj:wr.cell? ⟨eB,7,none⟩=some (.slice oH ia.length oI):=(af cI.out 7).trans rfl
           have Bb:=aa cI.out 0
           have Bc:=aa cI.out 1
           have Rs:=aa cI.out 2
           have Yk:=aa cI.out 3
           have Yl:=aa cI.out 4
           have Ym:=aa cI.out 5
           have Yn:=aa cI.out 6
           have Yo:=aa cI.out 7
           have Ox: 0≤(iZ:Int):=of_decide_eq_true cW
           have Oy:iZ < (ia.length:Int):=of_decide_eq_true cW
           obtain ⟨adX,abv,vZ,wh,wj⟩:=xe QI.out iZ Ox Oy
           cases abv
           replace vZ:=(HB.out.cell (World.block_lt_of_cell? w _ vZ)).trans vZ
           replace wh:=(HB.out.cell (World.block_lt_of_cell? w _ wh)).trans wh
           replace wj:=(HB.out.cell (World.block_lt_of_cell? w _ wj)).trans wj
           replace Ox:=eq_true Ox
           replace Oy:=eq_true Oy
           go_wp2
           repeat (go_quiet (fail);try go_wp2)
           go_roundg k2
           case measure=>have:=HJ2.out;have:=Oj.out;omega
           case rel=>exact ⟨(wrap64 (iZ + 1)),ey,H',⟨by have:=HJ2.out;have:=Oj.out;omega⟩,⟨oX⟩,⟨rI⟩,⟨oW⟩⟩
         ·rw [if_neg GI] at H
          exact absurd H bn
        ·rw [if_neg c31] at H
         exact absurd H bn
       ·rw [if_neg Ou] at H
        exact absurd H bn
      ·rw [if_neg T7] at H
       have aal:decide (iZ < (cg.length:Int))=false:=decide_eq_false T7
       clear T7
       obtain rfl:=Option.some.inj H
       go_wp2
       repeat (go_quiet (fail);try go_wp2)
       go_ret
       exact ⟨cR,oW⟩
end Go.Proofs.YtokpnfljjjjikaaGreatDoor.pJ
