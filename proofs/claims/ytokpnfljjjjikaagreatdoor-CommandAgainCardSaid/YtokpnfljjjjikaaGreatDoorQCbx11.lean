import Derived.Test.YtokpnfljjjjikaaGreatDoorZo
import Derived.Test.YtokpnfljjjjikaaGreatDoorQCbx0
import Derived.Test.YtokpnfljjjjikaaGreatDoorQCbx1
namespace Go.Proofs.YtokpnfljjjjikaaGreatDoor.pJ
open Go.RowKit Go.Proofs.aj.bV Go.Proofs.aj.gq Go.Proofs.aj.dB
attribute [local go_sem] jo jq kM kN iO iP jr jt
set_option linter.unusedVariables false
set_option linter.unusedSimpArgs false
attribute [local go_sem high] Vl
mutual
def bH.j0:Nat→Bool→Bool→List ByteArray→ByteArray→ByteArray→Bool→Bool→List ByteArray→ByteArray→ByteArray→Bool→Option (Bool)
 | 0,_,_,_,_,_,_,_,_,_,_,_ =>none
 |k + 1,x26,I1,yc,I2,I3,I4,I5,Ai,I6,I7,I8=>if x26=true then (some false) else (bH.l0 k (yc.length:Int) 0 I1 yc I2 I3 I4 I5 Ai I6 I7 I8)
def bH.l0:Nat→Int→Int→Bool→List ByteArray→ByteArray→ByteArray→Bool→Bool→List ByteArray→ByteArray→ByteArray→Bool→Option (Bool)
 | 0,_,_,_,_,_,_,_,_,_,_,_,_ =>none
 |k + 1,x29,x30,I1,yc,I2,I3,I4,I5,Ai,I6,I7,I8=>if x30 < x29 then (if 0≤x30 then (if x30 < (yc.length:Int) then (if x30 < (Ai.length:Int) then (if (kB ByteArray.empty yc x30).toList=(kB ByteArray.empty Ai x30).toList then (bH.l0 k x29 (wrap64 (x30 + 1)) I1 yc I2 I3 I4 I5 Ai I6 I7 I8) else (some false)) else (none)) else (none)) else (none)) else (some true)
end
def bH.f (k:Nat) (bg:Bool) (dO:List ByteArray) (bJ:ByteArray) (eD:ByteArray) (bO:Bool) (gu:Bool) (nk:List ByteArray) (gA:ByteArray) (qE:ByteArray) (gB:Bool):Option (Bool):=if (bg != gu)=true then (bH.j0 k true bg dO bJ eD bO gu nk gA qE gB) else (if (!(bJ.toList == gA.toList) || (!(eD.toList == qE.toList) || (!(bO == gB))))=true then (bH.j0 k true bg dO bJ eD bO gu nk gA qE gB) else (bH.j0 k ((dO.length:Int) != (nk.length:Int)) bg dO bJ eD bO gu nk gA qE gB))
theorem bH.gf:∀ k,(∀ y0 y1 y2 y3 y4 y5 y6 y7 y8 y9 Oh,cN (bH.j0 k y0 y1 y2 y3 y4 y5 y6 y7 y8 y9 Oh) (bH.j0 (k + 1) y0 y1 y2 y3 y4 y5 y6 y7 y8 y9 Oh))∧(∀ y0 y1 y2 y3 y4 y5 y6 y7 y8 y9 Oh Vm,cN (bH.l0 k y0 y1 y2 y3 y4 y5 y6 y7 y8 y9 Oh Vm) (bH.l0 (k + 1) y0 y1 y2 y3 y4 y5 y6 y7 y8 y9 Oh Vm))
 | 0=>⟨fun _ _ _ _ _ _ _ _ _ _ _ r h=>by simp [bH.j0] at h,fun _ _ _ _ _ _ _ _ _ _ _ _ r h=>by simp [bH.l0] at h⟩
 |k + 1=>by
  obtain ⟨oo,ih1⟩:=bH.gf k
  refine ⟨?_,?_⟩
  ·intro y0 y1 y2 y3 y4 y5 y6 y7 y8 y9 Oh
   unfold bH.j0
   repeat' first
   |(with_reducible exact oo _ _ _ _ _ _ _ _ _ _ _)
   |(with_reducible exact ih1 _ _ _ _ _ _ _ _ _ _ _ _)
   |(with_reducible exact cN.refl _)
   |(with_reducible exact cN.none _)
   |(with_reducible refine cN.ite ?_ ?_)
   |(with_reducible refine cN.bind ?_ (fun _ =>?_))
   |refine cN.ite ?_ ?_
   |refine cN.bind ?_ (fun _ =>?_)
  ·intro y0 y1 y2 y3 y4 y5 y6 y7 y8 y9 Oh Vm
   unfold bH.l0
   repeat' first
   |(with_reducible exact oo _ _ _ _ _ _ _ _ _ _ _)
   |(with_reducible exact ih1 _ _ _ _ _ _ _ _ _ _ _ _)
   |(with_reducible exact cN.refl _)
   |(with_reducible exact cN.none _)
   |(with_reducible refine cN.ite ?_ ?_)
   |(with_reducible refine cN.bind ?_ (fun _ =>?_))
   |refine cN.ite ?_ ?_
   |refine cN.bind ?_ (fun _ =>?_)
theorem bH.mono:∀ a0 a1 a2 a3 a4 a5 a6 a7 a8 a9 k,cN (bH.f k a0 a1 a2 a3 a4 a5 a6 a7 a8 a9) (bH.f (k + 1) a0 a1 a2 a3 a4 a5 a6 a7 a8 a9):=by
 intro a0 a1 a2 a3 a4 a5 a6 a7 a8 a9 k
 obtain ⟨oo,ih1⟩:=bH.gf k
 unfold bH.f
 repeat' first
  |(with_reducible exact oo _ _ _ _ _ _ _ _ _ _ _)
  |(with_reducible exact ih1 _ _ _ _ _ _ _ _ _ _ _ _)
  |(with_reducible exact cN.refl _)
  |(with_reducible exact cN.none _)
  |(with_reducible refine cN.ite ?_ ?_)
  |(with_reducible refine cN.bind ?_ (fun _ =>?_))
  |refine cN.ite ?_ ?_
  |refine cN.bind ?_ (fun _ =>?_)
set_option maxHeartbeats 8000000 in
set_option maxRecDepth 100000 in
theorem bH.calls (k:Nat) (bg:Bool) (iI:Option Addr) (iJ:Nat) (dO:List ByteArray) (bJ:ByteArray) (eD:ByteArray) (bO:Bool) (gu:Bool) (Dg:Option Addr) (Dh:Nat) (nk:List ByteArray) (gA:ByteArray) (qE:ByteArray) (gB:Bool) (r:Bool) (w:World) (CG:Kd.C Kd.string w iI dO.length dO) (CI:dO.length≤iJ) (aaa:Kd.C Kd.string w Dg nk.length nk) (aab:nk.length≤Dh) (h:bH.f k bg dO bJ eD bO gu nk gA qE gB=some r):
 Calls Tryz.prog 18 #[.agg #[.bool bg,.slice iI dO.length iJ,.string bJ,.string eD,.bool bO],.agg #[.bool gu,.slice Dg nk.length Dh,.string gA,.string qE,.bool gB]] w fun e w'=>e= .returned (.bool r)∧Below w.heap.size w w':=by
 have Oi:=Tryz.underlying32
 have LP:=Tryz.underlying30
 have xg:=ah.mk CG
 have Aj:=ah.mk CI
 clear CG CI
 have aac:=ah.mk aaa
 have an0:=ah.mk aab
 clear aaa aab
 have HB:=ah.mk (Below.refl w.heap.size w)
 have H:(if (bg != gu)=true then (bH.j0 k true bg dO bJ eD bO gu nk gA qE gB) else (if (!(bJ.toList == gA.toList) || (!(eD.toList == qE.toList) || (!(bO == gB))))=true then (bH.j0 k true bg dO bJ eD bO gu nk gA qE gB) else (bH.j0 k ((dO.length:Int) != (nk.length:Int)) bg dO bJ eD bO gu nk gA qE gB)))=some r:=h
 clear h
 have Vn:=ah.mk H
 clear H
 go_enter Tryz.func18,Tryz.ntmps18
 go_upto_region 1 with (first|((with_reducible refine cC (N:=2) rfl ?_);(try (refine cO (by rfl) ?_;dsimp only));refine b9 ?hg (N:=2) ?hd (cs:=#[.bool bg,.slice iI dO.length iJ,.string bJ,.string eD,.bool bO]) (t:=32) ?hr ?_;(case hd=>rfl);(case hg=>rfl);(case hr=>first|(go_simp;done)|(go_simp;rfl));intro gZ hg w4 cJ hb;have bB:=ah.mk (ay bN hb);have bL:=ah.mk (cJ);have bY:=ah.mk ((dz:w.heap.size≤gZ));have cK:=ah.mk ((dz:w.heap.size≤gZ));clear HB;have HB:=bB;have fP:=bL;have aad:=bY;have Lu:=cK;clear bB bL bY cK;clear hb cJ hg)|((with_reducible refine cC (N:=3) rfl ?_);(try (refine cO (by rfl) ?_;dsimp only));refine b9 ?hg (N:=3) ?hd (cs:=#[.bool gu,.slice Dg nk.length Dh,.string gA,.string qE,.bool gB]) (t:=32) ?hr ?_;(case hd=>rfl);(case hg=>rfl);(case hr=>first|(go_simp;done)|(go_simp;rfl));intro je hg w5 cJ hb;have bB:=ah.mk (aM (g:=gZ) (o:= .cells #[.bool bg,.slice iI dO.length iJ,.string bJ,.string eD,.bool bO] 32 (0,0)) wU hb);have bL:=ah.mk (ay NU hb);have bY:=ah.mk (cJ);have cK:=ah.mk ((BK:w.heap.size≤je));have gY:=ah.mk ((BK:w.heap.size≤je));have jc:=ah.mk ((Ix:gZ≠je));have nH:=ah.mk ((Iy:je≠gZ));clear fP;clear HB;have fP:=bB;have HB:=bL;have gS:=bY;have aae:=cK;have Ug:=gY;have pK:=jc;have pL:=nH;clear bB bL bY cK gY jc nH;clear hb cJ hg))
 repeat (go_quiet (first|((with_reducible refine cC (N:=2) rfl ?_);(try (refine cO (by rfl) ?_;dsimp only));refine b9 ?hg (N:=2) ?hd (cs:=#[.bool bg,.slice iI dO.length iJ,.string bJ,.string eD,.bool bO]) (t:=32) ?hr ?_;(case hd=>rfl);(case hg=>rfl);(case hr=>first|(go_simp;done)|(go_simp;rfl));intro gZ hg w4 cJ hb;have bB:=ah.mk (ay bN hb);have bL:=ah.mk (cJ);have bY:=ah.mk ((dz:w.heap.size≤gZ));have cK:=ah.mk ((dz:w.heap.size≤gZ));clear HB;have HB:=bB;have fP:=bL;have aad:=bY;have Lu:=cK;clear bB bL bY cK;clear hb cJ hg)|((with_reducible refine cC (N:=3) rfl ?_);(try (refine cO (by rfl) ?_;dsimp only));refine b9 ?hg (N:=3) ?hd (cs:=#[.bool gu,.slice Dg nk.length Dh,.string gA,.string qE,.bool gB]) (t:=32) ?hr ?_;(case hd=>rfl);(case hg=>rfl);(case hr=>first|(go_simp;done)|(go_simp;rfl));intro je hg w5 cJ hb;have bB:=ah.mk (aM (g:=gZ) (o:= .cells #[.bool bg,.slice iI dO.length iJ,.string bJ,.string eD,.bool bO] 32 (0,0)) wU hb);have bL:=ah.mk (ay NU hb);have bY:=ah.mk (cJ);have cK:=ah.mk ((BK:w.heap.size≤je));have gY:=ah.mk ((BK:w.heap.size≤je));have jc:=ah.mk ((Ix:gZ≠je));have nH:=ah.mk ((Iy:je≠gZ));clear fP;clear HB;have fP:=bB;have HB:=bL;have gS:=bY;have aae:=cK;have Ug:=gY;have pK:=jc;have pL:=nH;clear bB bL bY cK gY jc nH;clear hb cJ hg));go_upto_region 1 with (first|((with_reducible refine cC (N:=2) rfl ?_);(try (refine cO (by rfl) ?_;dsimp only));refine b9 ?hg (N:=2) ?hd (cs:=#[.bool bg,.slice iI dO.length iJ,.string bJ,.string eD,.bool bO]) (t:=32) ?hr ?_;(case hd=>rfl);(case hg=>rfl);(case hr=>first|(go_simp;done)|(go_simp;rfl));intro gZ hg w4 cJ hb;have bB:=ah.mk (ay bN hb);have bL:=ah.mk (cJ);have bY:=ah.mk ((dz:w.heap.size≤gZ));have cK:=ah.mk ((dz:w.heap.size≤gZ));clear HB;have HB:=bB;have fP:=bL;have aad:=bY;have Lu:=cK;clear bB bL bY cK;clear hb cJ hg)|((with_reducible refine cC (N:=3) rfl ?_);(try (refine cO (by rfl) ?_;dsimp only));refine b9 ?hg (N:=3) ?hd (cs:=#[.bool gu,.slice Dg nk.length Dh,.string gA,.string qE,.bool gB]) (t:=32) ?hr ?_;(case hd=>rfl);(case hg=>rfl);(case hr=>first|(go_simp;done)|(go_simp;rfl));intro je hg w5 cJ hb;have bB:=ah.mk (aM (g:=gZ) (o:= .cells #[.bool bg,.slice iI dO.length iJ,.string bJ,.string eD,.bool bO] 32 (0,0)) wU hb);have bL:=ah.mk (ay NU hb);have bY:=ah.mk (cJ);have cK:=ah.mk ((BK:w.heap.size≤je));have gY:=ah.mk ((BK:w.heap.size≤je));have jc:=ah.mk ((Ix:gZ≠je));have nH:=ah.mk ((Iy:je≠gZ));clear fP;clear HB;have fP:=bB;have HB:=bL;have gS:=bY;have aae:=cK;have Ug:=gY;have pK:=jc;have pL:=nH;clear bB bL bY cK gY jc nH;clear hb cJ hg)))
 (try simp only [Act.put,List.setIfInBounds_toArray,List.set_cons_zero,List.set_cons_succ])
 go_cut [26] (fun v26 wc=>∃ (kq:Nat) (Ql:Bool),v26= .bool Ql∧ah (bH.j0 kq Ql bg dO bJ eD bO gu nk gA qE gB=some r)∧ah (kq≤k)∧ah (wc.heap[gZ]? =some (.cells #[.bool bg,(.slice iI dO.length iJ),.string bJ,.string eD,.bool bO] 32 (0,0)))∧ah (wc.heap[je]? =some (.cells #[.bool gu,(.slice Dg nk.length Dh),.string gA,.string qE,.bool gB] 32 (0,0)))∧ah (Below w.heap.size w wc))
 case first=>
  have H:=Vn.out
  clear Vn
  by_cases c6:(bg != gu)=true
  ·rw [if_pos c6] at H
   have pP:(bg != gu)=true:=c6
   (try (have zC:decide (bg=gu)=false:=by simpa using c6))
   (try (have abm:(bg == gu)=false:=by simpa using c6))
   (try (have aqa: ¬ (bg=gu):=by simpa using c6))
   clear c6
   (first|rw [pP]|(simp only [dx,dA];rw [pP])|skip)
   have H':=ah.mk H
   clear H
   have aqb:=pK.out
   have aqc:=pL.out
   have xh:w5.cell? ⟨gZ,0,none⟩=some (.bool bg):=(af fP.out 0).trans rfl
   have xj:w5.cell? ⟨gZ,1,none⟩=some (.slice iI dO.length iJ):=(af fP.out 1).trans rfl
   have BZ:w5.cell? ⟨gZ,2,none⟩=some (.string bJ):=(af fP.out 2).trans rfl
   have Fl:w5.cell? ⟨gZ,3,none⟩=some (.string eD):=(af fP.out 3).trans rfl
   have Fm:w5.cell? ⟨gZ,4,none⟩=some (.bool bO):=(af fP.out 4).trans rfl
   have xk:=aa fP.out 0
   have xm:=aa fP.out 1
   have B0:=aa fP.out 2
   have Fp:=aa fP.out 3
   have Fq:=aa fP.out 4
   have qF:w5.cell? ⟨je,0,none⟩=some (.bool gu):=(af gS.out 0).trans rfl
   have qG:w5.cell? ⟨je,1,none⟩=some (.slice Dg nk.length Dh):=(af gS.out 1).trans rfl
   have xp:w5.cell? ⟨je,2,none⟩=some (.string gA):=(af gS.out 2).trans rfl
   have zD:w5.cell? ⟨je,3,none⟩=some (.string qE):=(af gS.out 3).trans rfl
   have zE:w5.cell? ⟨je,4,none⟩=some (.bool gB):=(af gS.out 4).trans rfl
   have qH:=aa gS.out 0
   have qI:=aa gS.out 1
   have xq:=aa gS.out 2
   have zF:=aa gS.out 3
   have zG:=aa gS.out 4
   go_wp2
   repeat (go_quiet (fail);try go_wp2)
   go_meet
   case rel=>exact ⟨_,(true),ey,H',⟨lU⟩,⟨wU⟩,⟨z7⟩,⟨wV⟩⟩
  ·rw [if_neg c6] at H
   have pP:(bg != gu)=false:=by simpa using c6
   (try (have zC:decide (bg=gu)=true:=by simpa using c6))
   (try (have abm:(bg == gu)=true:=by simpa using c6))
   clear c6
   (first|rw [pP]|(simp only [dx,dA];rw [pP])|skip)
   by_cases c10:(!(bJ.toList == gA.toList) || (!(eD.toList == qE.toList) || (!(bO == gB))))=true
   ·rw [if_pos c10] at H
    have pV:(!(bJ.toList == gA.toList) || (!(eD.toList == qE.toList) || (!(bO == gB))))=true:=c10
    clear c10
    have H':=ah.mk H
    clear H
    have an1:=pK.out
    have an2:=pL.out
    have u7:w5.cell? ⟨gZ,0,none⟩=some (.bool bg):=(af fP.out 0).trans rfl
    have u9:w5.cell? ⟨gZ,1,none⟩=some (.slice iI dO.length iJ):=(af fP.out 1).trans rfl
    have yf:w5.cell? ⟨gZ,2,none⟩=some (.string bJ):=(af fP.out 2).trans rfl
    have Ak:w5.cell? ⟨gZ,3,none⟩=some (.string eD):=(af fP.out 3).trans rfl
    have Al:w5.cell? ⟨gZ,4,none⟩=some (.bool bO):=(af fP.out 4).trans rfl
    have vk:=aa fP.out 0
    have vo:=aa fP.out 1
    have yg:=aa fP.out 2
    have Am:=aa fP.out 3
    have Ao:=aa fP.out 4
    have qN:w5.cell? ⟨je,0,none⟩=some (.bool gu):=(af gS.out 0).trans rfl
    have qO:w5.cell? ⟨je,1,none⟩=some (.slice Dg nk.length Dh):=(af gS.out 1).trans rfl
    have vq:w5.cell? ⟨je,2,none⟩=some (.string gA):=(af gS.out 2).trans rfl
    have D3:w5.cell? ⟨je,3,none⟩=some (.string qE):=(af gS.out 3).trans rfl
    have D4:w5.cell? ⟨je,4,none⟩=some (.bool gB):=(af gS.out 4).trans rfl
    have qP:=aa gS.out 0
    have qQ:=aa gS.out 1
    have vv:=aa gS.out 2
    have D5:=aa gS.out 3
    have D6:=aa gS.out 4
    go_wp2
    repeat (go_quiet (fail);try go_wp2)
    go_meet
    case rel=>exact ⟨_,(true),ey,H',⟨lU⟩,⟨wU⟩,⟨z7⟩,⟨wV⟩⟩
   ·rw [if_neg c10] at H
    have pV:(!(bJ.toList == gA.toList) || (!(eD.toList == qE.toList) || (!(bO == gB))))=false:=by simpa using c10
    clear c10
    have H':=ah.mk H
    clear H
    have adI:=pK.out
    have adJ:=pL.out
    have vw:w5.cell? ⟨gZ,0,none⟩=some (.bool bg):=(af fP.out 0).trans rfl
    have vA:w5.cell? ⟨gZ,1,none⟩=some (.slice iI dO.length iJ):=(af fP.out 1).trans rfl
    have vB:w5.cell? ⟨gZ,2,none⟩=some (.string bJ):=(af fP.out 2).trans rfl
    have vC:w5.cell? ⟨gZ,3,none⟩=some (.string eD):=(af fP.out 3).trans rfl
    have vD:w5.cell? ⟨gZ,4,none⟩=some (.bool bO):=(af fP.out 4).trans rfl
    have vE:=aa fP.out 0
    have vF:=aa fP.out 1
    have vG:=aa fP.out 2
    have vH:=aa fP.out 3
    have vI:=aa fP.out 4
    have nO:w5.cell? ⟨je,0,none⟩=some (.bool gu):=(af gS.out 0).trans rfl
    have nP:w5.cell? ⟨je,1,none⟩=some (.slice Dg nk.length Dh):=(af gS.out 1).trans rfl
    have qR:w5.cell? ⟨je,2,none⟩=some (.string gA):=(af gS.out 2).trans rfl
    have s9:w5.cell? ⟨je,3,none⟩=some (.string qE):=(af gS.out 3).trans rfl
    have td:w5.cell? ⟨je,4,none⟩=some (.bool gB):=(af gS.out 4).trans rfl
    have nQ:=aa gS.out 0
    have nR:=aa gS.out 1
    have qT:=aa gS.out 2
    have tj:=aa gS.out 3
    have tq:=aa gS.out 4
    go_wp2
    repeat (go_quiet (fail);try go_wp2)
    go_meet
    case rel=>exact ⟨_,(((dO.length:Int) != (nk.length:Int))),ey,H',⟨lU⟩,⟨wU⟩,⟨z7⟩,⟨wV⟩⟩
 case rest=>
  clear Vn
  try clear c1
  try clear p2
  try clear c6
  try clear pP
  try clear zC
  try clear abm
  try clear c7
  try clear c10
  try clear pV
  try clear c11
  try clear c14
  try clear u7
  try clear u9
  try clear yf
  try clear Ak
  try clear Al
  try clear qN
  try clear qO
  try clear vq
  try clear D3
  try clear D4
  try clear vw
  try clear vA
  try clear vB
  try clear vC
  try clear vD
  try clear nO
  try clear nP
  try clear qR
  try clear s9
  try clear td
  try clear xh
  try clear xj
  try clear BZ
  try clear Fl
  try clear Fm
  try clear qF
  try clear qG
  try clear xp
  try clear zD
  try clear zE
  try clear vk
  try clear vo
  try clear yg
  try clear Am
  try clear Ao
  try clear qP
  try clear qQ
  try clear vv
  try clear D5
  try clear D6
  try clear vE
  try clear vF
  try clear vG
  try clear vH
  try clear vI
  try clear nQ
  try clear nR
  try clear qT
  try clear tj
  try clear tq
  try clear xk
  try clear xm
  try clear B0
  try clear Fp
  try clear Fq
  try clear qH
  try clear qI
  try clear xq
  try clear zF
  try clear zG
  obtain ⟨kq,Ql,rfl,HA,HJ2,fP,gS,HB⟩:=hcut
  cases kq with
  |zero=>exact absurd HA.out (by simp [bH.j0])
  |succ Di=>
   have H:=HA.out
   clear HA
   simp only [bH.j0] at H
   by_cases c17:Ql=true
   ·subst c17
    have H1:(some false)=some r:=by rw [if_pos rfl] at H;exact H
    clear H
    have H:=H1
    clear H1
    obtain rfl:=Option.some.inj H
    go_wp2
    repeat (go_quiet (fail);try go_wp2)
    go_ret
    exact ⟨cR,wV⟩
   ·replace c17:=Bool.eq_false_iff.mpr c17
    subst c17
    have H1:(bH.l0 Di (dO.length:Int) 0 bg dO bJ eD bO gu nk gA qE gB)=some r:=by rw [if_neg (show ¬ (false=true) by decide)] at H;exact H
    clear H
    have H:=H1
    clear H1
    have H':=ah.mk H
    clear H
    have an3:=pK.out
    have an4:=pL.out
    have Qm:wc.cell? ⟨gZ,0,none⟩=some (.bool bg):=(af fP.out 0).trans rfl
    have Qn:wc.cell? ⟨gZ,1,none⟩=some (.slice iI dO.length iJ):=(af fP.out 1).trans rfl
    have Qo:wc.cell? ⟨gZ,2,none⟩=some (.string bJ):=(af fP.out 2).trans rfl
    have Qp:wc.cell? ⟨gZ,3,none⟩=some (.string eD):=(af fP.out 3).trans rfl
    have Qq:wc.cell? ⟨gZ,4,none⟩=some (.bool bO):=(af fP.out 4).trans rfl
    have Qr:=aa fP.out 0
    have Qs:=aa fP.out 1
    have Qt:=aa fP.out 2
    have Qu:=aa fP.out 3
    have Qv:=aa fP.out 4
    go_wp2
    repeat (go_quiet (fail);try go_wp2)
    go_loopg [30] Di (fun kq v30 w'=>∃ (kj:Int),v30= .int .i64 kj∧ah (bH.l0 kq (dO.length:Int) kj bg dO bJ eD bO gu nk gA qE gB=some r)∧ah (kq≤Di)∧ah (w'.heap[gZ]? =some (.cells #[.bool bg,(.slice iI dO.length iJ),.string bJ,.string eD,.bool bO] 32 (0,0)))∧ah (w'.heap[je]? =some (.cells #[.bool gu,(.slice Dg nk.length Dh),.string gA,.string qE,.bool gB] 32 (0,0)))∧ah (Below w.heap.size w w'))
    case atStart=>exact ⟨(0),ey,H',⟨Nat.le_refl _⟩,⟨wU⟩,⟨z7⟩,⟨wV⟩⟩
    case round=>
     clear H'
     try clear c1
     try clear p2
     try clear c6
     try clear pP
     try clear zC
     try clear abm
     try clear c7
     try clear c10
     try clear pV
     try clear c11
     try clear c14
     try clear c17
     try clear c18
     try clear u7
     try clear u9
     try clear yf
     try clear Ak
     try clear Al
     try clear qN
     try clear qO
     try clear vq
     try clear D3
     try clear D4
     try clear vw
     try clear vA
     try clear vB
     try clear vC
     try clear vD
     try clear nO
     try clear nP
     try clear qR
     try clear s9
     try clear td
     try clear Qm
     try clear Qn
     try clear Qo
     try clear Qp
     try clear Qq
     try clear xh
     try clear xj
     try clear BZ
     try clear Fl
     try clear Fm
     try clear qF
     try clear qG
     try clear xp
     try clear zD
     try clear zE
     try clear vk
     try clear vo
     try clear yg
     try clear Am
     try clear Ao
     try clear qP
     try clear qQ
     try clear vv
     try clear D5
     try clear D6
     try clear vE
     try clear vF
     try clear vG
     try clear vH
     try clear vI
     try clear nQ
     try clear nR
     try clear qT
     try clear tj
     try clear tq
     try clear Qr
     try clear Qs
     try clear Qt
     try clear Qu
     try clear Qv
     try clear xk
     try clear xm
     try clear B0
     try clear Fp
     try clear Fq
     try clear qH
     try clear qI
     try clear xq
     try clear zF
     try clear zG
     try clear p2
     obtain ⟨kj,rfl,HA,Oj,fP,gS,HB⟩:=hrel
     cases gk with
     |zero=>exact absurd HA.out (by simp [bH.l0])
     |succ k2=>
      have H:=HA.out
      clear HA
      simp only [bH.l0] at H
      by_cases c20:kj < (dO.length:Int)
      ·rw [if_pos c20] at H
       have He:decide (kj < (dO.length:Int))=true:=decide_eq_true c20
       clear c20
       by_cases c21: 0≤kj
       ·rw [if_pos c21] at H
        have Qw:decide (0≤kj)=true:=decide_eq_true c21
        clear c21
        by_cases GG:kj < (dO.length:Int)
        ·rw [if_pos GG] at H
         have Qx:decide (kj < (dO.length:Int))=true:=decide_eq_true GG
         clear GG
         by_cases Vo:kj < (nk.length:Int)
         ·rw [if_pos Vo] at H
          have an5:decide (kj < (nk.length:Int))=true:=decide_eq_true Vo
          clear Vo
          by_cases c24:(kB ByteArray.empty dO kj).toList=(kB ByteArray.empty nk kj).toList
          ·rw [if_pos c24] at H
           have LQ:((kB ByteArray.empty dO kj).toList == (kB ByteArray.empty nk kj).toList)=true:=beq_iff_eq.mpr c24
           have aaf:((kB ByteArray.empty dO kj).toList != (kB ByteArray.empty nk kj).toList)=false:=bne_eq_false_iff_eq.mpr c24
           clear c24
           have H':=ah.mk H
           clear H
           have an6:=pK.out
           have an7:=pL.out
           have I9:wr.cell? ⟨gZ,0,none⟩=some (.bool bg):=(af fP.out 0).trans rfl
           have Ja:wr.cell? ⟨gZ,1,none⟩=some (.slice iI dO.length iJ):=(af fP.out 1).trans rfl
           have Jb:wr.cell? ⟨gZ,2,none⟩=some (.string bJ):=(af fP.out 2).trans rfl
           have XJ:wr.cell? ⟨gZ,3,none⟩=some (.string eD):=(af fP.out 3).trans rfl
           have XK:wr.cell? ⟨gZ,4,none⟩=some (.bool bO):=(af fP.out 4).trans rfl
           have Jc:=aa fP.out 0
           have Jd:=aa fP.out 1
           have Je:=aa fP.out 2
           have XL:=aa fP.out 3
           have XM:=aa fP.out 4
           have Ol: 0≤(kj:Int):=of_decide_eq_true cW
           have Om:kj < (dO.length:Int):=of_decide_eq_true cW
           obtain ⟨adK,abn,vJ⟩:=Kd.jA xg.out kj Ol Om
           cases abn
           replace vJ:=(HB.out.cell (World.block_lt_of_cell? w _ vJ)).trans vJ
           replace Ol:=eq_true Ol
           replace Om:=eq_true Om
           have Qy:wr.cell? ⟨je,0,none⟩=some (.bool gu):=(af gS.out 0).trans rfl
           have Qz:wr.cell? ⟨je,1,none⟩=some (.slice Dg nk.length Dh):=(af gS.out 1).trans rfl
           have XN:wr.cell? ⟨je,2,none⟩=some (.string gA):=(af gS.out 2).trans rfl
           have XO:wr.cell? ⟨je,3,none⟩=some (.string qE):=(af gS.out 3).trans rfl
           have XP:wr.cell? ⟨je,4,none⟩=some (.bool gB):=(af gS.out 4).trans rfl
           have QA:=aa gS.out 0
           have QB:=aa gS.out 1
           have XQ:=aa gS.out 2
           have XR:=aa gS.out 3
           have XS:=aa gS.out 4
           have Oo: 0≤(kj:Int):=of_decide_eq_true cW
           have Oq:kj < (nk.length:Int):=of_decide_eq_true cW
           obtain ⟨adL,abo,vK⟩:=Kd.jA aac.out kj Oo Oq
           cases abo
           replace vK:=(HB.out.cell (World.block_lt_of_cell? w _ vK)).trans vK
           replace Oo:=eq_true Oo
           replace Oq:=eq_true Oq
           go_wp2
           repeat (go_quiet (fail);try go_wp2)
           go_roundg k2
           case measure=>have:=HJ2.out;have:=Oj.out;omega
           case rel=>exact ⟨(wrap64 (kj + 1)),ey,H',⟨by have:=HJ2.out;have:=Oj.out;omega⟩,⟨wU⟩,⟨z7⟩,⟨wV⟩⟩
          ·rw [if_neg c24] at H
           have LQ:((kB ByteArray.empty dO kj).toList == (kB ByteArray.empty nk kj).toList)=false:=beq_eq_false_iff_ne.mpr c24
           have aaf:((kB ByteArray.empty dO kj).toList != (kB ByteArray.empty nk kj).toList)=true:=bne_iff_ne.mpr c24
           obtain rfl:=Option.some.inj H
           have an8:=pK.out
           have an9:=pL.out
           have Ap:wr.cell? ⟨gZ,0,none⟩=some (.bool bg):=(af fP.out 0).trans rfl
           have Aq:wr.cell? ⟨gZ,1,none⟩=some (.slice iI dO.length iJ):=(af fP.out 1).trans rfl
           have D7:wr.cell? ⟨gZ,2,none⟩=some (.string bJ):=(af fP.out 2).trans rfl
           have XT:wr.cell? ⟨gZ,3,none⟩=some (.string eD):=(af fP.out 3).trans rfl
           have XU:wr.cell? ⟨gZ,4,none⟩=some (.bool bO):=(af fP.out 4).trans rfl
           have Ar:=aa fP.out 0
           have Au:=aa fP.out 1
           have D8:=aa fP.out 2
           have XV:=aa fP.out 3
           have XW:=aa fP.out 4
           have Ol: 0≤(kj:Int):=of_decide_eq_true cW
           have Om:kj < (dO.length:Int):=of_decide_eq_true cW
           obtain ⟨adK,abn,vJ⟩:=Kd.jA xg.out kj Ol Om
           cases abn
           replace vJ:=(HB.out.cell (World.block_lt_of_cell? w _ vJ)).trans vJ
           replace Ol:=eq_true Ol
           replace Om:=eq_true Om
           have QC:wr.cell? ⟨je,0,none⟩=some (.bool gu):=(af gS.out 0).trans rfl
           have QD:wr.cell? ⟨je,1,none⟩=some (.slice Dg nk.length Dh):=(af gS.out 1).trans rfl
           have QE:wr.cell? ⟨je,2,none⟩=some (.string gA):=(af gS.out 2).trans rfl
           have ahn:wr.cell? ⟨je,3,none⟩=some (.string qE):=(af gS.out 3).trans rfl
           have aho:wr.cell? ⟨je,4,none⟩=some (.bool gB):=(af gS.out 4).trans rfl
           have QF:=aa gS.out 0
           have QG:=aa gS.out 1
           have QH:=aa gS.out 2
           have ahp:=aa gS.out 3
           have ahq:=aa gS.out 4
           have Oo: 0≤(kj:Int):=of_decide_eq_true cW
           have Oq:kj < (nk.length:Int):=of_decide_eq_true cW
           obtain ⟨adL,abo,vK⟩:=Kd.jA aac.out kj Oo Oq
           cases abo
           replace vK:=(HB.out.cell (World.block_lt_of_cell? w _ vK)).trans vK
           replace Oo:=eq_true Oo
           replace Oq:=eq_true Oq
           go_wp2
           repeat (go_quiet (fail);try go_wp2)
           go_ret
           exact ⟨cR,wV⟩
         ·rw [if_neg Vo] at H
          exact absurd H bn
        ·rw [if_neg GG] at H
         exact absurd H bn
       ·rw [if_neg c21] at H
        exact absurd H bn
      ·rw [if_neg c20] at H
       have He:decide (kj < (dO.length:Int))=false:=decide_eq_false c20
       clear c20
       obtain rfl:=Option.some.inj H
       go_wp2
       repeat (go_quiet (fail);try go_wp2)
       go_ret
       exact ⟨cR,wV⟩
end Go.Proofs.YtokpnfljjjjikaaGreatDoor.pJ
