import Derived.Test.YtokpnfljjjjikaaGreatDoorQCbx1
namespace Go.Proofs.YtokpnfljjjjikaaGreatDoor.n9
open Go.RowKit Go.Proofs.aj.bQ Go.Proofs.aj.gf Go.Proofs.aj.cT
attribute [local go_sem] jt iY kQ kJ iJ iK ju jv
set_option linter.unusedVariables false
set_option linter.unusedSimpArgs false
attribute [local go_sem high] WN
mutual
def bH.j0:Nat→Bool→Bool→List ByteArray→ByteArray→ByteArray→Bool→Bool→List ByteArray→ByteArray→ByteArray→Bool→Option (Bool)
 | 0,_,_,_,_,_,_,_,_,_,_,_ =>none
 |k + 1,x26,Kj,zO,Kk,Kl,Km,Kn,BX,Ko,Kp,Kq=>if x26=true then (some false) else (bH.l0 k (zO.length:Int) 0 Kj zO Kk Kl Km Kn BX Ko Kp Kq)
def bH.l0:Nat→Int→Int→Bool→List ByteArray→ByteArray→ByteArray→Bool→Bool→List ByteArray→ByteArray→ByteArray→Bool→Option (Bool)
 | 0,_,_,_,_,_,_,_,_,_,_,_,_ =>none
 |k + 1,x29,x30,Kj,zO,Kk,Kl,Km,Kn,BX,Ko,Kp,Kq=>if x30 < x29 then (if 0≤x30 then (if x30 < (zO.length:Int) then (if x30 < (BX.length:Int) then (if (kG ByteArray.empty zO x30).toList=(kG ByteArray.empty BX x30).toList then (bH.l0 k x29 (wrap64 (x30 + 1)) Kj zO Kk Kl Km Kn BX Ko Kp Kq) else (some false)) else (none)) else (none)) else (none)) else (some true)
end
def bH.f (k:Nat) (aI:Bool) (dN:List ByteArray) (bn:ByteArray) (eF:ByteArray) (bz:Bool) (gh:Bool) (nC:List ByteArray) (gw:ByteArray) (ry:ByteArray) (gy:Bool):Option (Bool):=if (aI != gh)=true then (bH.j0 k true aI dN bn eF bz gh nC gw ry gy) else (if (!(bn.toList == gw.toList) || (!(eF.toList == ry.toList) || (!(bz == gy))))=true then (bH.j0 k true aI dN bn eF bz gh nC gw ry gy) else (bH.j0 k ((dN.length:Int) != (nC.length:Int)) aI dN bn eF bz gh nC gw ry gy))
theorem bH.fU:∀ k,(∀ y0 y1 y2 y3 y4 y5 y6 y7 y8 y9 PR,cN (bH.j0 k y0 y1 y2 y3 y4 y5 y6 y7 y8 y9 PR) (bH.j0 (k + 1) y0 y1 y2 y3 y4 y5 y6 y7 y8 y9 PR))∧(∀ y0 y1 y2 y3 y4 y5 y6 y7 y8 y9 PR WO,cN (bH.l0 k y0 y1 y2 y3 y4 y5 y6 y7 y8 y9 PR WO) (bH.l0 (k + 1) y0 y1 y2 y3 y4 y5 y6 y7 y8 y9 PR WO))
 | 0=>⟨fun _ _ _ _ _ _ _ _ _ _ _ r h=>by simp [bH.j0] at h,fun _ _ _ _ _ _ _ _ _ _ _ _ r h=>by simp [bH.l0] at h⟩
 |k + 1=>by
  obtain ⟨oK,ih1⟩:=bH.fU k
  refine ⟨?_,?_⟩
  ·intro y0 y1 y2 y3 y4 y5 y6 y7 y8 y9 PR
   unfold bH.j0
   repeat' first
   |(with_reducible exact oK _ _ _ _ _ _ _ _ _ _ _)
   |(with_reducible exact ih1 _ _ _ _ _ _ _ _ _ _ _ _)
   |(with_reducible exact cN.refl _)
   |(with_reducible exact cN.none _)
   |(with_reducible refine cN.ite ?_ ?_)
   |(with_reducible refine cN.bind ?_ (fun _ =>?_))
   |refine cN.ite ?_ ?_
   |refine cN.bind ?_ (fun _ =>?_)
  ·intro y0 y1 y2 y3 y4 y5 y6 y7 y8 y9 PR WO
   unfold bH.l0
   repeat' first
   |(with_reducible exact oK _ _ _ _ _ _ _ _ _ _ _)
   |(with_reducible exact ih1 _ _ _ _ _ _ _ _ _ _ _ _)
   |(with_reducible exact cN.refl _)
   |(with_reducible exact cN.none _)
   |(with_reducible refine cN.ite ?_ ?_)
   |(with_reducible refine cN.bind ?_ (fun _ =>?_))
   |refine cN.ite ?_ ?_
   |refine cN.bind ?_ (fun _ =>?_)
theorem bH.mono:∀ a0 a1 a2 a3 a4 a5 a6 a7 a8 a9 k,cN (bH.f k a0 a1 a2 a3 a4 a5 a6 a7 a8 a9) (bH.f (k + 1) a0 a1 a2 a3 a4 a5 a6 a7 a8 a9):=by
 intro a0 a1 a2 a3 a4 a5 a6 a7 a8 a9 k
 obtain ⟨oK,ih1⟩:=bH.fU k
 unfold bH.f
 repeat' first
  |(with_reducible exact oK _ _ _ _ _ _ _ _ _ _ _)
  |(with_reducible exact ih1 _ _ _ _ _ _ _ _ _ _ _ _)
  |(with_reducible exact cN.refl _)
  |(with_reducible exact cN.none _)
  |(with_reducible refine cN.ite ?_ ?_)
  |(with_reducible refine cN.bind ?_ (fun _ =>?_))
  |refine cN.ite ?_ ?_
  |refine cN.bind ?_ (fun _ =>?_)
set_option maxHeartbeats 8000000 in
set_option maxRecDepth 100000 in
theorem bH.calls (k:Nat) (aI:Bool) (iF:Option Addr) (iG:Nat) (dN:List ByteArray) (bn:ByteArray) (eF:ByteArray) (bz:Bool) (gh:Bool) (EO:Option Addr) (EP:Nat) (nC:List ByteArray) (gw:ByteArray) (ry:ByteArray) (gy:Bool) (r:Bool) (w:World) (Ea:Kd.C Kd.string w iF dN.length dN) (Eb:dN.length≤iG) (abL:Kd.C Kd.string w EO nC.length nC) (abM:nC.length≤EP) (h:bH.f k aI dN bn eF bz gh nC gw ry gy=some r):
 Calls Tryz.prog 18 #[.agg #[.bool aI,.slice iF dN.length iG,.string bn,.string eF,.bool bz],.agg #[.bool gh,.slice EO nC.length EP,.string gw,.string ry,.bool gy]] w fun e w'=>e= .returned (.bool r)∧Below w.heap.size w w':=by
 have M3:=Tryz.underlying32
 have M4:=Tryz.underlying30
 have yR:=ah.mk Ea
 have BZ:=ah.mk Eb
 clear Ea Eb
 have abN:=ah.mk abL
 have apU:=ah.mk abM
 clear abL abM
 have HB:=ah.mk (Below.refl w.heap.size w)
 have H:(if (aI != gh)=true then (bH.j0 k true aI dN bn eF bz gh nC gw ry gy) else (if (!(bn.toList == gw.toList) || (!(eF.toList == ry.toList) || (!(bz == gy))))=true then (bH.j0 k true aI dN bn eF bz gh nC gw ry gy) else (bH.j0 k ((dN.length:Int) != (nC.length:Int)) aI dN bn eF bz gh nC gw ry gy)))=some r:=h
 clear h
 have WQ:=ah.mk H
 clear H
 go_enter Tryz.func18,Tryz.ntmps18
 go_upto_region 1 with (first|((with_reducible refine cK (N:=2) rfl ?_);(try (refine eu (by rfl) ?_;dsimp only));refine cu ?hg (N:=2) ?hd (cs:=#[.bool aI,.slice iF dN.length iG,.string bn,.string eF,.bool bz]) (t:=32) ?hr ?_;(case hd=>rfl);(case hg=>rfl);(case hr=>first|(go_simp;done)|(go_simp;rfl));intro gX hg w4 cM hb;have bI:=ah.mk (az cA hb);have bP:=ah.mk (cM);have cw:=ah.mk ((dW:w.heap.size≤gX));have cW:=ah.mk ((dW:w.heap.size≤gX));clear HB;have HB:=bI;have fJ:=bP;have abO:=cw;have MM:=cW;clear bI bP cw cW;clear hb cM hg)|((with_reducible refine cK (N:=3) rfl ?_);(try (refine eu (by rfl) ?_;dsimp only));refine cu ?hg (N:=3) ?hd (cs:=#[.bool gh,.slice EO nC.length EP,.string gw,.string ry,.bool gy]) (t:=32) ?hr ?_;(case hd=>rfl);(case hg=>rfl);(case hr=>first|(go_simp;done)|(go_simp;rfl));intro iZ hg w5 cM hb;have bI:=ah.mk (aR (g:=gX) (o:= .cells #[.bool aI,.slice iF dN.length iG,.string bn,.string eF,.bool bz] 32 (0,0)) yM hb);have bP:=ah.mk (az Pq hb);have cw:=ah.mk (cM);have cW:=ah.mk ((Dj:w.heap.size≤iZ));have jc:=ah.mk ((Dj:w.heap.size≤iZ));have nv:=ah.mk ((PD:gX≠iZ));have nI:=ah.mk ((PE:iZ≠gX));clear fJ;clear HB;have fJ:=bI;have HB:=bP;have gM:=cw;have abP:=cW;have V4:=jc;have pU:=nv;have pV:=nI;clear bI bP cw cW jc nv nI;clear hb cM hg))
 repeat (go_quiet (first|((with_reducible refine cK (N:=2) rfl ?_);(try (refine eu (by rfl) ?_;dsimp only));refine cu ?hg (N:=2) ?hd (cs:=#[.bool aI,.slice iF dN.length iG,.string bn,.string eF,.bool bz]) (t:=32) ?hr ?_;(case hd=>rfl);(case hg=>rfl);(case hr=>first|(go_simp;done)|(go_simp;rfl));intro gX hg w4 cM hb;have bI:=ah.mk (az cA hb);have bP:=ah.mk (cM);have cw:=ah.mk ((dW:w.heap.size≤gX));have cW:=ah.mk ((dW:w.heap.size≤gX));clear HB;have HB:=bI;have fJ:=bP;have abO:=cw;have MM:=cW;clear bI bP cw cW;clear hb cM hg)|((with_reducible refine cK (N:=3) rfl ?_);(try (refine eu (by rfl) ?_;dsimp only));refine cu ?hg (N:=3) ?hd (cs:=#[.bool gh,.slice EO nC.length EP,.string gw,.string ry,.bool gy]) (t:=32) ?hr ?_;(case hd=>rfl);(case hg=>rfl);(case hr=>first|(go_simp;done)|(go_simp;rfl));intro iZ hg w5 cM hb;have bI:=ah.mk (aR (g:=gX) (o:= .cells #[.bool aI,.slice iF dN.length iG,.string bn,.string eF,.bool bz] 32 (0,0)) yM hb);have bP:=ah.mk (az Pq hb);have cw:=ah.mk (cM);have cW:=ah.mk ((Dj:w.heap.size≤iZ));have jc:=ah.mk ((Dj:w.heap.size≤iZ));have nv:=ah.mk ((PD:gX≠iZ));have nI:=ah.mk ((PE:iZ≠gX));clear fJ;clear HB;have fJ:=bI;have HB:=bP;have gM:=cw;have abP:=cW;have V4:=jc;have pU:=nv;have pV:=nI;clear bI bP cw cW jc nv nI;clear hb cM hg));go_upto_region 1 with (first|((with_reducible refine cK (N:=2) rfl ?_);(try (refine eu (by rfl) ?_;dsimp only));refine cu ?hg (N:=2) ?hd (cs:=#[.bool aI,.slice iF dN.length iG,.string bn,.string eF,.bool bz]) (t:=32) ?hr ?_;(case hd=>rfl);(case hg=>rfl);(case hr=>first|(go_simp;done)|(go_simp;rfl));intro gX hg w4 cM hb;have bI:=ah.mk (az cA hb);have bP:=ah.mk (cM);have cw:=ah.mk ((dW:w.heap.size≤gX));have cW:=ah.mk ((dW:w.heap.size≤gX));clear HB;have HB:=bI;have fJ:=bP;have abO:=cw;have MM:=cW;clear bI bP cw cW;clear hb cM hg)|((with_reducible refine cK (N:=3) rfl ?_);(try (refine eu (by rfl) ?_;dsimp only));refine cu ?hg (N:=3) ?hd (cs:=#[.bool gh,.slice EO nC.length EP,.string gw,.string ry,.bool gy]) (t:=32) ?hr ?_;(case hd=>rfl);(case hg=>rfl);(case hr=>first|(go_simp;done)|(go_simp;rfl));intro iZ hg w5 cM hb;have bI:=ah.mk (aR (g:=gX) (o:= .cells #[.bool aI,.slice iF dN.length iG,.string bn,.string eF,.bool bz] 32 (0,0)) yM hb);have bP:=ah.mk (az Pq hb);have cw:=ah.mk (cM);have cW:=ah.mk ((Dj:w.heap.size≤iZ));have jc:=ah.mk ((Dj:w.heap.size≤iZ));have nv:=ah.mk ((PD:gX≠iZ));have nI:=ah.mk ((PE:iZ≠gX));clear fJ;clear HB;have fJ:=bI;have HB:=bP;have gM:=cw;have abP:=cW;have V4:=jc;have pU:=nv;have pV:=nI;clear bI bP cw cW jc nv nI;clear hb cM hg)))
 (try simp only [Act.put,List.setIfInBounds_toArray,List.set_cons_zero,List.set_cons_succ])
 go_cut [26] (fun v26 wc=>∃ (kq:Nat) (RT:Bool),v26= .bool RT∧ah (bH.j0 kq RT aI dN bn eF bz gh nC gw ry gy=some r)∧ah (kq≤k)∧ah (wc.heap[gX]? =some (.cells #[.bool aI,(.slice iF dN.length iG),.string bn,.string eF,.bool bz] 32 (0,0)))∧ah (wc.heap[iZ]? =some (.cells #[.bool gh,(.slice EO nC.length EP),.string gw,.string ry,.bool gy] 32 (0,0)))∧ah (Below w.heap.size w wc))
 case first=>
  have H:=WQ.out
  clear WQ
  by_cases c6:(aI != gh)=true
  ·rw [if_pos c6] at H
   have oW:(aI != gh)=true:=c6
   (try (have yS:decide (aI=gh)=false:=by simpa using c6))
   (try (have ac4:(aI == gh)=false:=by simpa using c6))
   (try (have asr: ¬ (aI=gh):=by simpa using c6))
   clear c6
   (first|rw [oW]|(simp only [cS,cV];rw [oW])|skip)
   have H':=ah.mk H
   clear H
   have ast:=pU.out
   have asu:=pV.out
   have yT:w5.cell? ⟨gX,0,none⟩=some (.bool aI):=(af fJ.out 0).trans rfl
   have yU:w5.cell? ⟨gX,1,none⟩=some (.slice iF dN.length iG):=(af fJ.out 1).trans rfl
   have Du:w5.cell? ⟨gX,2,none⟩=some (.string bn):=(af fJ.out 2).trans rfl
   have GG:w5.cell? ⟨gX,3,none⟩=some (.string eF):=(af fJ.out 3).trans rfl
   have GH:w5.cell? ⟨gX,4,none⟩=some (.bool bz):=(af fJ.out 4).trans rfl
   have yV:=aa fJ.out 0
   have yX:=aa fJ.out 1
   have Dv:=aa fJ.out 2
   have GI:=aa fJ.out 3
   have GJ:=aa fJ.out 4
   have rz:w5.cell? ⟨iZ,0,none⟩=some (.bool gh):=(af gM.out 0).trans rfl
   have rA:w5.cell? ⟨iZ,1,none⟩=some (.slice EO nC.length EP):=(af gM.out 1).trans rfl
   have yY:w5.cell? ⟨iZ,2,none⟩=some (.string gw):=(af gM.out 2).trans rfl
   have Bg:w5.cell? ⟨iZ,3,none⟩=some (.string ry):=(af gM.out 3).trans rfl
   have Bh:w5.cell? ⟨iZ,4,none⟩=some (.bool gy):=(af gM.out 4).trans rfl
   have rB:=aa gM.out 0
   have rC:=aa gM.out 1
   have yZ:=aa gM.out 2
   have Bi:=aa gM.out 3
   have Bj:=aa gM.out 4
   go_wp2
   repeat (go_quiet (fail);try go_wp2)
   go_meet
   case rel=>exact ⟨_,(true),dL,H',⟨nB⟩,⟨yM⟩,⟨BI⟩,⟨yN⟩⟩
  ·rw [if_neg c6] at H
   have oW:(aI != gh)=false:=by simpa using c6
   (try (have yS:decide (aI=gh)=true:=by simpa using c6))
   (try (have ac4:(aI == gh)=true:=by simpa using c6))
   clear c6
   (first|rw [oW]|(simp only [cS,cV];rw [oW])|skip)
   by_cases c10:(!(bn.toList == gw.toList) || (!(eF.toList == ry.toList) || (!(bz == gy))))=true
   ·rw [if_pos c10] at H
    have oX:(!(bn.toList == gw.toList) || (!(eF.toList == ry.toList) || (!(bz == gy))))=true:=c10
    clear c10
    have H':=ah.mk H
    clear H
    have apV:=pU.out
    have apW:=pV.out
    have wW:w5.cell? ⟨gX,0,none⟩=some (.bool aI):=(af fJ.out 0).trans rfl
    have wX:w5.cell? ⟨gX,1,none⟩=some (.slice iF dN.length iG):=(af fJ.out 1).trans rfl
    have zP:w5.cell? ⟨gX,2,none⟩=some (.string bn):=(af fJ.out 2).trans rfl
    have B0:w5.cell? ⟨gX,3,none⟩=some (.string eF):=(af fJ.out 3).trans rfl
    have B6:w5.cell? ⟨gX,4,none⟩=some (.bool bz):=(af fJ.out 4).trans rfl
    have wY:=aa fJ.out 0
    have wZ:=aa fJ.out 1
    have zQ:=aa fJ.out 2
    have Ca:=aa fJ.out 3
    have Cb:=aa fJ.out 4
    have nJ:w5.cell? ⟨iZ,0,none⟩=some (.bool gh):=(af gM.out 0).trans rfl
    have nK:w5.cell? ⟨iZ,1,none⟩=some (.slice EO nC.length EP):=(af gM.out 1).trans rfl
    have qh:w5.cell? ⟨iZ,2,none⟩=some (.string gw):=(af gM.out 2).trans rfl
    have uD:w5.cell? ⟨iZ,3,none⟩=some (.string ry):=(af gM.out 3).trans rfl
    have uE:w5.cell? ⟨iZ,4,none⟩=some (.bool gy):=(af gM.out 4).trans rfl
    have nL:=aa gM.out 0
    have nM:=aa gM.out 1
    have qi:=aa gM.out 2
    have uF:=aa gM.out 3
    have uG:=aa gM.out 4
    go_wp2
    repeat (go_quiet (fail);try go_wp2)
    go_meet
    case rel=>exact ⟨_,(true),dL,H',⟨nB⟩,⟨yM⟩,⟨BI⟩,⟨yN⟩⟩
   ·rw [if_neg c10] at H
    have oX:(!(bn.toList == gw.toList) || (!(eF.toList == ry.toList) || (!(bz == gy))))=false:=by simpa using c10
    clear c10
    have H':=ah.mk H
    clear H
    have afn:=pU.out
    have afo:=pV.out
    have qj:w5.cell? ⟨gX,0,none⟩=some (.bool aI):=(af fJ.out 0).trans rfl
    have qm:w5.cell? ⟨gX,1,none⟩=some (.slice iF dN.length iG):=(af fJ.out 1).trans rfl
    have qo:w5.cell? ⟨gX,2,none⟩=some (.string bn):=(af fJ.out 2).trans rfl
    have qp:w5.cell? ⟨gX,3,none⟩=some (.string eF):=(af fJ.out 3).trans rfl
    have qq:w5.cell? ⟨gX,4,none⟩=some (.bool bz):=(af fJ.out 4).trans rfl
    have qu:=aa fJ.out 0
    have qw:=aa fJ.out 1
    have qx:=aa fJ.out 2
    have qy:=aa fJ.out 3
    have qz:=aa fJ.out 4
    have oa:w5.cell? ⟨iZ,0,none⟩=some (.bool gh):=(af gM.out 0).trans rfl
    have oc:w5.cell? ⟨iZ,1,none⟩=some (.slice EO nC.length EP):=(af gM.out 1).trans rfl
    have rJ:w5.cell? ⟨iZ,2,none⟩=some (.string gw):=(af gM.out 2).trans rfl
    have uH:w5.cell? ⟨iZ,3,none⟩=some (.string ry):=(af gM.out 3).trans rfl
    have uI:w5.cell? ⟨iZ,4,none⟩=some (.bool gy):=(af gM.out 4).trans rfl
    have og:=aa gM.out 0
    have om:=aa gM.out 1
    have rK:=aa gM.out 2
    have uJ:=aa gM.out 3
    have uK:=aa gM.out 4
    go_wp2
    repeat (go_quiet (fail);try go_wp2)
    go_meet
    case rel=>exact ⟨_,(((dN.length:Int) != (nC.length:Int))),dL,H',⟨nB⟩,⟨yM⟩,⟨BI⟩,⟨yN⟩⟩
 case rest=>
  clear WQ
  try clear c1
  try clear p2
  try clear c6
  try clear oW
  try clear yS
  try clear ac4
  try clear c7
  try clear c10
  try clear oX
  try clear c11
  try clear c14
  try clear wW
  try clear wX
  try clear zP
  try clear B0
  try clear B6
  try clear nJ
  try clear nK
  try clear qh
  try clear uD
  try clear uE
  try clear qj
  try clear qm
  try clear qo
  try clear qp
  try clear qq
  try clear oa
  try clear oc
  try clear rJ
  try clear uH
  try clear uI
  try clear yT
  try clear yU
  try clear Du
  try clear GG
  try clear GH
  try clear rz
  try clear rA
  try clear yY
  try clear Bg
  try clear Bh
  try clear wY
  try clear wZ
  try clear zQ
  try clear Ca
  try clear Cb
  try clear nL
  try clear nM
  try clear qi
  try clear uF
  try clear uG
  try clear qu
  try clear qw
  try clear qx
  try clear qy
  try clear qz
  try clear og
  try clear om
  try clear rK
  try clear uJ
  try clear uK
  try clear yV
  try clear yX
  try clear Dv
  try clear GI
  try clear GJ
  try clear rB
  try clear rC
  try clear yZ
  try clear Bi
  try clear Bj
  obtain ⟨kq,RT,rfl,HA,HJ2,fJ,gM,HB⟩:=hcut
  cases kq with
  |zero=>exact absurd HA.out (by simp [bH.j0])
  |succ ER=>
   have H:=HA.out
   clear HA
   simp only [bH.j0] at H
   by_cases c17:RT=true
   ·subst c17
    have H1:(some false)=some r:=by rw [if_pos rfl] at H;exact H
    clear H
    have H:=H1
    clear H1
    obtain rfl:=Option.some.inj H
    go_wp2
    repeat (go_quiet (fail);try go_wp2)
    go_ret
    exact ⟨cU,yN⟩
   ·replace c17:=Bool.eq_false_iff.mpr c17
    subst c17
    have H1:(bH.l0 ER (dN.length:Int) 0 aI dN bn eF bz gh nC gw ry gy)=some r:=by rw [if_neg (show ¬ (false=true) by decide)] at H;exact H
    clear H
    have H:=H1
    clear H1
    have H':=ah.mk H
    clear H
    have apX:=pU.out
    have apY:=pV.out
    have RU:wc.cell? ⟨gX,0,none⟩=some (.bool aI):=(af fJ.out 0).trans rfl
    have RV:wc.cell? ⟨gX,1,none⟩=some (.slice iF dN.length iG):=(af fJ.out 1).trans rfl
    have RX:wc.cell? ⟨gX,2,none⟩=some (.string bn):=(af fJ.out 2).trans rfl
    have RY:wc.cell? ⟨gX,3,none⟩=some (.string eF):=(af fJ.out 3).trans rfl
    have RZ:wc.cell? ⟨gX,4,none⟩=some (.bool bz):=(af fJ.out 4).trans rfl
    have R3:=aa fJ.out 0
    have R4:=aa fJ.out 1
    have R5:=aa fJ.out 2
    have R6:=aa fJ.out 3
    have R7:=aa fJ.out 4
    go_wp2
    repeat (go_quiet (fail);try go_wp2)
    go_loopg [30] ER (fun kq v30 w'=>∃ (kB:Int),v30= .int .i64 kB∧ah (bH.l0 kq (dN.length:Int) kB aI dN bn eF bz gh nC gw ry gy=some r)∧ah (kq≤ER)∧ah (w'.heap[gX]? =some (.cells #[.bool aI,(.slice iF dN.length iG),.string bn,.string eF,.bool bz] 32 (0,0)))∧ah (w'.heap[iZ]? =some (.cells #[.bool gh,(.slice EO nC.length EP),.string gw,.string ry,.bool gy] 32 (0,0)))∧ah (Below w.heap.size w w'))
    case atStart=>exact ⟨(0),dL,H',⟨Nat.le_refl _⟩,⟨yM⟩,⟨BI⟩,⟨yN⟩⟩
    case round=>
     clear H'
     try clear c1
     try clear p2
     try clear c6
     try clear oW
     try clear yS
     try clear ac4
     try clear c7
     try clear c10
     try clear oX
     try clear c11
     try clear c14
     try clear c17
     try clear c18
     try clear wW
     try clear wX
     try clear zP
     try clear B0
     try clear B6
     try clear nJ
     try clear nK
     try clear qh
     try clear uD
     try clear uE
     try clear qj
     try clear qm
     try clear qo
     try clear qp
     try clear qq
     try clear oa
     try clear oc
     try clear rJ
     try clear uH
     try clear uI
     try clear RU
     try clear RV
     try clear RX
     try clear RY
     try clear RZ
     try clear yT
     try clear yU
     try clear Du
     try clear GG
     try clear GH
     try clear rz
     try clear rA
     try clear yY
     try clear Bg
     try clear Bh
     try clear wY
     try clear wZ
     try clear zQ
     try clear Ca
     try clear Cb
     try clear nL
     try clear nM
     try clear qi
     try clear uF
     try clear uG
     try clear qu
     try clear qw
     try clear qx
     try clear qy
     try clear qz
     try clear og
     try clear om
     try clear rK
     try clear uJ
     try clear uK
     try clear R3
     try clear R4
     try clear R5
     try clear R6
     try clear R7
     try clear yV
     try clear yX
     try clear Dv
     try clear GI
     try clear GJ
     try clear rB
     try clear rC
     try clear yZ
     try clear Bi
     try clear Bj
     try clear p2
     obtain ⟨kB,rfl,HA,PT,fJ,gM,HB⟩:=hrel
     cases gk with
     |zero=>exact absurd HA.out (by simp [bH.l0])
     |succ k2=>
      have H:=HA.out
      clear HA
      simp only [bH.l0] at H
      by_cases c20:kB < (dN.length:Int)
      ·rw [if_pos c20] at H
       have Jg:decide (kB < (dN.length:Int))=true:=decide_eq_true c20
       clear c20
       by_cases c21: 0≤kB
       ·rw [if_pos c21] at H
        have R8:decide (0≤kB)=true:=decide_eq_true c21
        clear c21
        by_cases Dh:kB < (dN.length:Int)
        ·rw [if_pos Dh] at H
         have R9:decide (kB < (dN.length:Int))=true:=decide_eq_true Dh
         clear Dh
         by_cases WR:kB < (nC.length:Int)
         ·rw [if_pos WR] at H
          have apZ:decide (kB < (nC.length:Int))=true:=decide_eq_true WR
          clear WR
          by_cases c24:(kG ByteArray.empty dN kB).toList=(kG ByteArray.empty nC kB).toList
          ·rw [if_pos c24] at H
           have M5:((kG ByteArray.empty dN kB).toList == (kG ByteArray.empty nC kB).toList)=true:=beq_iff_eq.mpr c24
           have abQ:((kG ByteArray.empty dN kB).toList != (kG ByteArray.empty nC kB).toList)=false:=bne_eq_false_iff_eq.mpr c24
           clear c24
           have H':=ah.mk H
           clear H
           have ap0:=pU.out
           have ap1:=pV.out
           have Kr:wr.cell? ⟨gX,0,none⟩=some (.bool aI):=(af fJ.out 0).trans rfl
           have Ks:wr.cell? ⟨gX,1,none⟩=some (.slice iF dN.length iG):=(af fJ.out 1).trans rfl
           have Kt:wr.cell? ⟨gX,2,none⟩=some (.string bn):=(af fJ.out 2).trans rfl
           have Zu:wr.cell? ⟨gX,3,none⟩=some (.string eF):=(af fJ.out 3).trans rfl
           have Zv:wr.cell? ⟨gX,4,none⟩=some (.bool bz):=(af fJ.out 4).trans rfl
           have Ku:=aa fJ.out 0
           have Kv:=aa fJ.out 1
           have Kw:=aa fJ.out 2
           have Zw:=aa fJ.out 3
           have Zx:=aa fJ.out 4
           have PU: 0≤(kB:Int):=of_decide_eq_true cO
           have PV:kB < (dN.length:Int):=of_decide_eq_true cO
           obtain ⟨afp,ac5,xd⟩:=Kd.jB yR.out kB PU PV
           cases ac5
           replace xd:=(HB.out.cell (World.block_lt_of_cell? w _ xd)).trans xd
           replace PU:=eq_true PU
           replace PV:=eq_true PV
           have Sa:wr.cell? ⟨iZ,0,none⟩=some (.bool gh):=(af gM.out 0).trans rfl
           have Sb:wr.cell? ⟨iZ,1,none⟩=some (.slice EO nC.length EP):=(af gM.out 1).trans rfl
           have Zy:wr.cell? ⟨iZ,2,none⟩=some (.string gw):=(af gM.out 2).trans rfl
           have Zz:wr.cell? ⟨iZ,3,none⟩=some (.string ry):=(af gM.out 3).trans rfl
           have ZA:wr.cell? ⟨iZ,4,none⟩=some (.bool gy):=(af gM.out 4).trans rfl
           have Sc:=aa gM.out 0
           have Sd:=aa gM.out 1
           have ZB:=aa gM.out 2
           have ZC:=aa gM.out 3
           have ZE:=aa gM.out 4
           have PW: 0≤(kB:Int):=of_decide_eq_true cO
           have PX:kB < (nC.length:Int):=of_decide_eq_true cO
           obtain ⟨afq,ac6,xe⟩:=Kd.jB abN.out kB PW PX
           cases ac6
           replace xe:=(HB.out.cell (World.block_lt_of_cell? w _ xe)).trans xe
           replace PW:=eq_true PW
           replace PX:=eq_true PX
           go_wp2
           repeat (go_quiet (fail);try go_wp2)
           go_roundg k2
           case measure=>have:=HJ2.out;have:=PT.out;omega
           case rel=>exact ⟨(wrap64 (kB + 1)),dL,H',⟨by have:=HJ2.out;have:=PT.out;omega⟩,⟨yM⟩,⟨BI⟩,⟨yN⟩⟩
          ·rw [if_neg c24] at H
           have M5:((kG ByteArray.empty dN kB).toList == (kG ByteArray.empty nC kB).toList)=false:=beq_eq_false_iff_ne.mpr c24
           have abQ:((kG ByteArray.empty dN kB).toList != (kG ByteArray.empty nC kB).toList)=true:=bne_iff_ne.mpr c24
           obtain rfl:=Option.some.inj H
           have ap2:=pU.out
           have ap3:=pV.out
           have Fq:wr.cell? ⟨gX,0,none⟩=some (.bool aI):=(af fJ.out 0).trans rfl
           have Fu:wr.cell? ⟨gX,1,none⟩=some (.slice iF dN.length iG):=(af fJ.out 1).trans rfl
           have Ky:wr.cell? ⟨gX,2,none⟩=some (.string bn):=(af fJ.out 2).trans rfl
           have aji:wr.cell? ⟨gX,3,none⟩=some (.string eF):=(af fJ.out 3).trans rfl
           have ajj:wr.cell? ⟨gX,4,none⟩=some (.bool bz):=(af fJ.out 4).trans rfl
           have Fv:=aa fJ.out 0
           have Fw:=aa fJ.out 1
           have Kz:=aa fJ.out 2
           have ajk:=aa fJ.out 3
           have ajl:=aa fJ.out 4
           have PU: 0≤(kB:Int):=of_decide_eq_true cO
           have PV:kB < (dN.length:Int):=of_decide_eq_true cO
           obtain ⟨afp,ac5,xd⟩:=Kd.jB yR.out kB PU PV
           cases ac5
           replace xd:=(HB.out.cell (World.block_lt_of_cell? w _ xd)).trans xd
           replace PU:=eq_true PU
           replace PV:=eq_true PV
           have Sg:wr.cell? ⟨iZ,0,none⟩=some (.bool gh):=(af gM.out 0).trans rfl
           have Sh:wr.cell? ⟨iZ,1,none⟩=some (.slice EO nC.length EP):=(af gM.out 1).trans rfl
           have Si:wr.cell? ⟨iZ,2,none⟩=some (.string gw):=(af gM.out 2).trans rfl
           have ajm:wr.cell? ⟨iZ,3,none⟩=some (.string ry):=(af gM.out 3).trans rfl
           have ajn:wr.cell? ⟨iZ,4,none⟩=some (.bool gy):=(af gM.out 4).trans rfl
           have Sj:=aa gM.out 0
           have Sk:=aa gM.out 1
           have Sl:=aa gM.out 2
           have ajo:=aa gM.out 3
           have ajp:=aa gM.out 4
           have PW: 0≤(kB:Int):=of_decide_eq_true cO
           have PX:kB < (nC.length:Int):=of_decide_eq_true cO
           obtain ⟨afq,ac6,xe⟩:=Kd.jB abN.out kB PW PX
           cases ac6
           replace xe:=(HB.out.cell (World.block_lt_of_cell? w _ xe)).trans xe
           replace PW:=eq_true PW
           replace PX:=eq_true PX
           go_wp2
           repeat (go_quiet (fail);try go_wp2)
           go_ret
           exact ⟨cU,yN⟩
         ·rw [if_neg WR] at H
          exact absurd H bf
        ·rw [if_neg Dh] at H
         exact absurd H bf
       ·rw [if_neg c21] at H
        exact absurd H bf
      ·rw [if_neg c20] at H
       have Jg:decide (kB < (dN.length:Int))=false:=decide_eq_false c20
       clear c20
       obtain rfl:=Option.some.inj H
       go_wp2
       repeat (go_quiet (fail);try go_wp2)
       go_ret
       exact ⟨cU,yN⟩
end Go.Proofs.YtokpnfljjjjikaaGreatDoor.n9
