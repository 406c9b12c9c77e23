import Derived.Test.YtokpnfljjjjikaaGreatDoorQPtx1
import Derived.Test.YtokpnfljjjjikaaGreatDoorQPtx8
set_option maxHeartbeats 8000000
set_option maxRecDepth 100000
namespace Go.Proofs.YtokpnfljjjjikaaGreatDoor.lO
open Go.RowKit Go.Proofs.YtokpnfljjjjikaaGreatDoor.sL Go.Proofs.aj.bw Go.Proofs.aj.eU Go.Proofs.aj.cj
attribute [local go_sem] gL gM iL iM fZ gf gP gQ
set_option linter.unusedVariables false
set_option linter.unusedSimpArgs false
attribute [local go_sem high] NI
mutual
def aN.j0:Nat→Bool→Bool→List ByteArray→ByteArray→ByteArray→Bool→Bool→List ByteArray→ByteArray→ByteArray→Bool→Option (Bool)
 | 0,_,_,_,_,_,_,_,_,_,_,_ =>none
 |k + 1,x26,zB,qd,zC,zD,zE,zF,rO,zG,zH,zI=>if x26=true then (some false) else (aN.l0 k (qd.length:Int) 0 zB qd zC zD zE zF rO zG zH zI)
def aN.l0:Nat→Int→Int→Bool→List ByteArray→ByteArray→ByteArray→Bool→Bool→List ByteArray→ByteArray→ByteArray→Bool→Option (Bool)
 | 0,_,_,_,_,_,_,_,_,_,_,_,_ =>none
 |k + 1,x29,OT,zB,qd,zC,zD,zE,zF,rO,zG,zH,zI=>if OT < x29 then (if 0≤OT then (if OT < (qd.length:Int) then (if OT < (rO.length:Int) then (if (jv ByteArray.empty qd OT).toList=(jv ByteArray.empty rO OT).toList then (aN.l0 k x29 (wrap64 (OT + 1)) zB qd zC zD zE zF rO zG zH zI) else (some false)) else (none)) else (none)) else (none)) else (some true)
end
def aN.f (k:Nat) (bD:Bool) (bG:List ByteArray) (bC:ByteArray) (bI:ByteArray) (bJ:Bool) (iR:Bool) (iG:List ByteArray) (jq:ByteArray) (jr:ByteArray) (jt:Bool):Option (Bool):=if (bD != iR)=true then (aN.j0 k true bD bG bC bI bJ iR iG jq jr jt) else (if (!(bC.toList == jq.toList) || (!(bI.toList == jr.toList) || (!(bJ == jt))))=true then (aN.j0 k true bD bG bC bI bJ iR iG jq jr jt) else (aN.j0 k ((bG.length:Int) != (iG.length:Int)) bD bG bC bI bJ iR iG jq jr jt))
theorem aN.eD:∀ k,(∀ y0 y1 y2 y3 y4 y5 y6 y7 y8 y9 OU,bZ (aN.j0 k y0 y1 y2 y3 y4 y5 y6 y7 y8 y9 OU) (aN.j0 (k + 1) y0 y1 y2 y3 y4 y5 y6 y7 y8 y9 OU))∧(∀ y0 y1 y2 y3 y4 y5 y6 y7 y8 y9 OU y11,bZ (aN.l0 k y0 y1 y2 y3 y4 y5 y6 y7 y8 y9 OU y11) (aN.l0 (k + 1) y0 y1 y2 y3 y4 y5 y6 y7 y8 y9 OU y11))
 | 0=>⟨fun _ _ _ _ _ _ _ _ _ _ _ r h=>by simp [aN.j0] at h,fun _ _ _ _ _ _ _ _ _ _ _ _ r h=>by simp [aN.l0] at h⟩
 |k + 1=>by
  obtain ⟨iJ,ih1⟩:=aN.eD k
  refine ⟨?_,?_⟩
  ·intro y0 y1 y2 y3 y4 y5 y6 y7 y8 y9 OU
   unfold aN.j0
   repeat' first
   |(with_reducible first|exact iJ _ _ _ _ _ _ _ _ _ _ _|exact ih1 _ _ _ _ _ _ _ _ _ _ _ _|exact bZ.refl _|exact bZ.none _|refine bZ.ite ?_ ?_|refine bZ.bind ?_ (fun _ =>?_))
   |exact iJ _ _ _ _ _ _ _ _ _ _ _
   |exact ih1 _ _ _ _ _ _ _ _ _ _ _ _
   |exact bZ.none _
   |refine bZ.ite ?_ ?_
   |refine bZ.bind ?_ (fun _ =>?_)
  ·intro y0 y1 y2 y3 y4 y5 y6 y7 y8 y9 OU y11
   unfold aN.l0
   repeat' first
   |(with_reducible first|exact iJ _ _ _ _ _ _ _ _ _ _ _|exact ih1 _ _ _ _ _ _ _ _ _ _ _ _|exact bZ.refl _|exact bZ.none _|refine bZ.ite ?_ ?_|refine bZ.bind ?_ (fun _ =>?_))
   |exact iJ _ _ _ _ _ _ _ _ _ _ _
   |exact ih1 _ _ _ _ _ _ _ _ _ _ _ _
   |exact bZ.none _
   |refine bZ.ite ?_ ?_
   |refine bZ.bind ?_ (fun _ =>?_)
theorem aN.mono:∀ a0 a1 a2 a3 a4 a5 a6 a7 a8 a9 k,bZ (aN.f k a0 a1 a2 a3 a4 a5 a6 a7 a8 a9) (aN.f (k + 1) a0 a1 a2 a3 a4 a5 a6 a7 a8 a9):=by
 intro a0 a1 a2 a3 a4 a5 a6 a7 a8 a9 k
 obtain ⟨iJ,ih1⟩:=aN.eD k
 unfold aN.f
 repeat' first
  |(with_reducible first|exact iJ _ _ _ _ _ _ _ _ _ _ _|exact ih1 _ _ _ _ _ _ _ _ _ _ _ _|exact bZ.refl _|exact bZ.none _|refine bZ.ite ?_ ?_|refine bZ.bind ?_ (fun _ =>?_))
  |exact iJ _ _ _ _ _ _ _ _ _ _ _
  |exact ih1 _ _ _ _ _ _ _ _ _ _ _ _
  |exact bZ.none _
  |refine bZ.ite ?_ ?_
  |refine bZ.bind ?_ (fun _ =>?_)
theorem aN.calls (k:Nat) (bD:Bool) (cI:Option Addr) (cJ:Nat) (bG:List ByteArray) (bC:ByteArray) (bI:ByteArray) (bJ:Bool) (iR:Bool) (oQ:Option Addr) (oU:Nat) (iG:List ByteArray) (jq:ByteArray) (jr:ByteArray) (jt:Bool) (r:Bool) (w:World) (nB:Kd.C Kd.string w cI bG.length bG) (nC:bG.length≤cJ) (Bh:Kd.C Kd.string w oQ iG.length iG) (Bi:iG.length≤oU) (h:aN.f k bD bG bC bI bJ iR iG jq jr jt=some r):
 Calls Tryz.prog 18 #[.agg #[.bool bD,.slice cI bG.length cJ,.string bC,.string bI,.bool bJ],.agg #[.bool iR,.slice oQ iG.length oU,.string jq,.string jr,.bool jt]] w fun e w'=>e= .returned (.bool r)∧Below w.heap.size w w':=by
 have Dh:=Tryz.underlying32
 have Bf:=Tryz.underlying30
 have jK:=af.mk nB
 have kF:=af.mk nC
 clear nB nC
 have FE:=af.mk Bh
 have NJ:=af.mk Bi
 clear Bh Bi
 have HB:=af.mk (Below.refl w.heap.size w)
 have H:(if (bD != iR)=true then (aN.j0 k true bD bG bC bI bJ iR iG jq jr jt) else (if (!(bC.toList == jq.toList) || (!(bI.toList == jr.toList) || (!(bJ == jt))))=true then (aN.j0 k true bD bG bC bI bJ iR iG jq jr jt) else (aN.j0 k ((bG.length:Int) != (iG.length:Int)) bD bG bC bI bJ iR iG jq jr jt)))=some r:=h
 clear h
 have OE:=af.mk H
 clear H
 go_enter Tryz.func18,Tryz.ntmps18
 go_upto_region 1 with (first|((with_reducible refine cU (N:=2) rfl ?_);(try (refine cW (by rfl) ?_;dsimp only));refine cL ?hg (N:=2) ?hd (cs:=#[.bool bD,.slice cI bG.length cJ,.string bC,.string bI,.bool bJ]) (t:=32) ?hr ?_;(case hd=>rfl);(case hg=>rfl);(case hr=>first|(go_simp;done)|(go_simp;rfl));intro fo hg w4 dg hb;have dF:=af.mk (dg);have NK:=af.mk ((eo:w.heap.size≤fo));have Al:=af.mk ((eo:w.heap.size≤fo));replace HB:=af.mk (aH bS hb);clear hb dg hg)|((with_reducible refine cU (N:=3) rfl ?_);(try (refine cW (by rfl) ?_;dsimp only));refine cL ?hg (N:=3) ?hd (cs:=#[.bool iR,.slice oQ iG.length oU,.string jq,.string jr,.bool jt]) (t:=32) ?hr ?_;(case hd=>rfl);(case hg=>rfl);(case hr=>first|(go_simp;done)|(go_simp;rfl));intro fO hg w5 dg hb;have eB:=af.mk (dg);have NL:=af.mk ((sD:w.heap.size≤fO));have Hu:=af.mk ((sD:w.heap.size≤fO));replace HB:=af.mk (aH Cs hb);have kf:=af.mk ((Cy:fo≠fO));have kg:=af.mk ((Cz:fO≠fo));replace dF:=af.mk (bq oX hb);clear hb dg hg))
 repeat (go_quiet (first|((with_reducible refine cU (N:=2) rfl ?_);(try (refine cW (by rfl) ?_;dsimp only));refine cL ?hg (N:=2) ?hd (cs:=#[.bool bD,.slice cI bG.length cJ,.string bC,.string bI,.bool bJ]) (t:=32) ?hr ?_;(case hd=>rfl);(case hg=>rfl);(case hr=>first|(go_simp;done)|(go_simp;rfl));intro fo hg w4 dg hb;have dF:=af.mk (dg);have NK:=af.mk ((eo:w.heap.size≤fo));have Al:=af.mk ((eo:w.heap.size≤fo));replace HB:=af.mk (aH bS hb);clear hb dg hg)|((with_reducible refine cU (N:=3) rfl ?_);(try (refine cW (by rfl) ?_;dsimp only));refine cL ?hg (N:=3) ?hd (cs:=#[.bool iR,.slice oQ iG.length oU,.string jq,.string jr,.bool jt]) (t:=32) ?hr ?_;(case hd=>rfl);(case hg=>rfl);(case hr=>first|(go_simp;done)|(go_simp;rfl));intro fO hg w5 dg hb;have eB:=af.mk (dg);have NL:=af.mk ((sD:w.heap.size≤fO));have Hu:=af.mk ((sD:w.heap.size≤fO));replace HB:=af.mk (aH Cs hb);have kf:=af.mk ((Cy:fo≠fO));have kg:=af.mk ((Cz:fO≠fo));replace dF:=af.mk (bq oX hb);clear hb dg hg));go_upto_region 1 with (first|((with_reducible refine cU (N:=2) rfl ?_);(try (refine cW (by rfl) ?_;dsimp only));refine cL ?hg (N:=2) ?hd (cs:=#[.bool bD,.slice cI bG.length cJ,.string bC,.string bI,.bool bJ]) (t:=32) ?hr ?_;(case hd=>rfl);(case hg=>rfl);(case hr=>first|(go_simp;done)|(go_simp;rfl));intro fo hg w4 dg hb;have dF:=af.mk (dg);have NK:=af.mk ((eo:w.heap.size≤fo));have Al:=af.mk ((eo:w.heap.size≤fo));replace HB:=af.mk (aH bS hb);clear hb dg hg)|((with_reducible refine cU (N:=3) rfl ?_);(try (refine cW (by rfl) ?_;dsimp only));refine cL ?hg (N:=3) ?hd (cs:=#[.bool iR,.slice oQ iG.length oU,.string jq,.string jr,.bool jt]) (t:=32) ?hr ?_;(case hd=>rfl);(case hg=>rfl);(case hr=>first|(go_simp;done)|(go_simp;rfl));intro fO hg w5 dg hb;have eB:=af.mk (dg);have NL:=af.mk ((sD:w.heap.size≤fO));have Hu:=af.mk ((sD:w.heap.size≤fO));replace HB:=af.mk (aH Cs hb);have kf:=af.mk ((Cy:fo≠fO));have kg:=af.mk ((Cz:fO≠fo));replace dF:=af.mk (bq oX hb);clear hb dg hg)))
 (try simp only [Act.put,List.setIfInBounds_toArray,List.set_cons_zero,List.set_cons_succ])
 go_cut [26] (fun v26 wc=>∃ (kq:Nat) (FH:Bool),v26= .bool FH∧af (aN.j0 kq FH bD bG bC bI bJ iR iG jq jr jt=some r)∧af (kq≤k)∧af (wc.heap[fo]? =some (.cells #[.bool bD,(.slice cI bG.length cJ),.string bC,.string bI,.bool bJ] 32 (0,0)))∧af (wc.heap[fO]? =some (.cells #[.bool iR,(.slice oQ iG.length oU),.string jq,.string jr,.bool jt] 32 (0,0)))∧af (Below w.heap.size w wc))
 case first=>
  have H:=OE.out
  clear OE
  by_cases c6:(bD != iR)=true
  ·rw [if_pos c6] at H
   have qo:(bD != iR)=true:=c6
   (try (have CW:decide (bD=iR)=false:=by simpa using c6))
   (try (have aaP:(bD == iR)=false:=by simpa using c6))
   (try (have aez: ¬ (bD=iR):=by simpa using c6))
   clear c6
   (first|rw [qo]|(simp only [cm,cw];rw [qo])|skip)
   have H':=af.mk H
   clear H
   have aeA:=kf.out
   have aeB:=kg.out
   have vC:w5.cell? ⟨fo,0,none⟩=some (.bool bD):=(ah dF.out 0).trans rfl
   have vD:w5.cell? ⟨fo,1,none⟩=some (.slice cI bG.length cJ):=(ah dF.out 1).trans rfl
   have Dc:w5.cell? ⟨fo,2,none⟩=some (.string bC):=(ah dF.out 2).trans rfl
   have Jn:w5.cell? ⟨fo,3,none⟩=some (.string bI):=(ah dF.out 3).trans rfl
   have Jo:w5.cell? ⟨fo,4,none⟩=some (.bool bJ):=(ah dF.out 4).trans rfl
   have vE:=aa dF.out 0
   have vF:=aa dF.out 1
   have Dd:=aa dF.out 2
   have Jp:=aa dF.out 3
   have Jq:=aa dF.out 4
   have nM:w5.cell? ⟨fO,0,none⟩=some (.bool iR):=(ah eB.out 0).trans rfl
   have nN:w5.cell? ⟨fO,1,none⟩=some (.slice oQ iG.length oU):=(ah eB.out 1).trans rfl
   have vT:w5.cell? ⟨fO,2,none⟩=some (.string jq):=(ah eB.out 2).trans rfl
   have zJ:w5.cell? ⟨fO,3,none⟩=some (.string jr):=(ah eB.out 3).trans rfl
   have zK:w5.cell? ⟨fO,4,none⟩=some (.bool jt):=(ah eB.out 4).trans rfl
   have nO:=aa eB.out 0
   have nP:=aa eB.out 1
   have vU:=aa eB.out 2
   have zL:=aa eB.out 3
   have zM:=aa eB.out 4
   go_wp2
   repeat (go_quiet (fail);try go_wp2)
   go_meet
   case rel=>exact ⟨_,(true),dG,H',⟨lS⟩,⟨oX⟩,⟨uW⟩,⟨oY⟩⟩
  ·rw [if_neg c6] at H
   have qo:(bD != iR)=false:=by simpa using c6
   (try (have CW:decide (bD=iR)=true:=by simpa using c6))
   (try (have aaP:(bD == iR)=true:=by simpa using c6))
   clear c6
   (first|rw [qo]|(simp only [cm,cw];rw [qo])|skip)
   by_cases c10:(!(bC.toList == jq.toList) || (!(bI.toList == jr.toList) || (!(bJ == jt))))=true
   ·rw [if_pos c10] at H
    have AH:(!(bC.toList == jq.toList) || (!(bI.toList == jr.toList) || (!(bJ == jt))))=true:=c10
    clear c10
    have H':=af.mk H
    clear H
    have QJ:=kf.out
    have QK:=kg.out
    have zN:w5.cell? ⟨fo,0,none⟩=some (.bool bD):=(ah dF.out 0).trans rfl
    have zO:w5.cell? ⟨fo,1,none⟩=some (.slice cI bG.length cJ):=(ah dF.out 1).trans rfl
    have FI:w5.cell? ⟨fo,2,none⟩=some (.string bC):=(ah dF.out 2).trans rfl
    have LM:w5.cell? ⟨fo,3,none⟩=some (.string bI):=(ah dF.out 3).trans rfl
    have LN:w5.cell? ⟨fo,4,none⟩=some (.bool bJ):=(ah dF.out 4).trans rfl
    have zP:=aa dF.out 0
    have zQ:=aa dF.out 1
    have FJ:=aa dF.out 2
    have LP:=aa dF.out 3
    have LQ:=aa dF.out 4
    have rJ:w5.cell? ⟨fO,0,none⟩=some (.bool iR):=(ah eB.out 0).trans rfl
    have rK:w5.cell? ⟨fO,1,none⟩=some (.slice oQ iG.length oU):=(ah eB.out 1).trans rfl
    have FL:w5.cell? ⟨fO,2,none⟩=some (.string jq):=(ah eB.out 2).trans rfl
    have LR:w5.cell? ⟨fO,3,none⟩=some (.string jr):=(ah eB.out 3).trans rfl
    have LS:w5.cell? ⟨fO,4,none⟩=some (.bool jt):=(ah eB.out 4).trans rfl
    have rL:=aa eB.out 0
    have rM:=aa eB.out 1
    have FM:=aa eB.out 2
    have LU:=aa eB.out 3
    have LV:=aa eB.out 4
    go_wp2
    repeat (go_quiet (fail);try go_wp2)
    go_meet
    case rel=>exact ⟨_,(true),dG,H',⟨lS⟩,⟨oX⟩,⟨uW⟩,⟨oY⟩⟩
   ·rw [if_neg c10] at H
    have AH:(!(bC.toList == jq.toList) || (!(bI.toList == jr.toList) || (!(bJ == jt))))=false:=by simpa using c10
    clear c10
    have H':=af.mk H
    clear H
    have QD:=kf.out
    have QE:=kg.out
    have U3:w5.cell? ⟨fo,0,none⟩=some (.bool bD):=(ah dF.out 0).trans rfl
    have U4:w5.cell? ⟨fo,1,none⟩=some (.slice cI bG.length cJ):=(ah dF.out 1).trans rfl
    have U5:w5.cell? ⟨fo,2,none⟩=some (.string bC):=(ah dF.out 2).trans rfl
    have U6:w5.cell? ⟨fo,3,none⟩=some (.string bI):=(ah dF.out 3).trans rfl
    have U7:w5.cell? ⟨fo,4,none⟩=some (.bool bJ):=(ah dF.out 4).trans rfl
    have U8:=aa dF.out 0
    have U9:=aa dF.out 1
    have Va:=aa dF.out 2
    have Vb:=aa dF.out 3
    have Vc:=aa dF.out 4
    have uC:w5.cell? ⟨fO,0,none⟩=some (.bool iR):=(ah eB.out 0).trans rfl
    have uD:w5.cell? ⟨fO,1,none⟩=some (.slice oQ iG.length oU):=(ah eB.out 1).trans rfl
    have Fp:w5.cell? ⟨fO,2,none⟩=some (.string jq):=(ah eB.out 2).trans rfl
    have Fq:w5.cell? ⟨fO,3,none⟩=some (.string jr):=(ah eB.out 3).trans rfl
    have Fu:w5.cell? ⟨fO,4,none⟩=some (.bool jt):=(ah eB.out 4).trans rfl
    have uE:=aa eB.out 0
    have uF:=aa eB.out 1
    have Fv:=aa eB.out 2
    have Fw:=aa eB.out 3
    have Fx:=aa eB.out 4
    go_wp2
    repeat (go_quiet (fail);try go_wp2)
    go_meet
    case rel=>exact ⟨_,(((bG.length:Int) != (iG.length:Int))),dG,H',⟨lS⟩,⟨oX⟩,⟨uW⟩,⟨oY⟩⟩
 case rest=>
  clear OE
  obtain ⟨kq,FH,rfl,HA,HJ2,dF,eB,HB⟩:=hcut
  cases kq with
  |zero=>exact absurd HA.out (by simp [aN.j0])
  |succ OG=>
   have H:=HA.out
   clear HA
   simp only [aN.j0] at H
   by_cases c17:FH=true
   ·subst c17
    rw [if_pos rfl] at H
    obtain rfl:=Option.some.inj H
    go_wp2
    repeat (go_quiet (fail);try go_wp2)
    go_ret
    exact ⟨cM,oY⟩
   ·replace c17:=Bool.eq_false_iff.mpr c17
    subst c17
    rw [if_neg (show ¬ (false=true) by decide)] at H
    have H':=af.mk H
    clear H
    have acF:=kf.out
    have acG:=kg.out
    have Vd:wc.cell? ⟨fo,0,none⟩=some (.bool bD):=(ah dF.out 0).trans rfl
    have Ve:wc.cell? ⟨fo,1,none⟩=some (.slice cI bG.length cJ):=(ah dF.out 1).trans rfl
    have Vf:wc.cell? ⟨fo,2,none⟩=some (.string bC):=(ah dF.out 2).trans rfl
    have Vg:wc.cell? ⟨fo,3,none⟩=some (.string bI):=(ah dF.out 3).trans rfl
    have Vh:wc.cell? ⟨fo,4,none⟩=some (.bool bJ):=(ah dF.out 4).trans rfl
    have Vi:=aa dF.out 0
    have Vj:=aa dF.out 1
    have Vk:=aa dF.out 2
    have Vl:=aa dF.out 3
    have Vm:=aa dF.out 4
    go_wp2
    repeat (go_quiet (fail);try go_wp2)
    go_loopg [30] OG (fun kq v30 w'=>∃ (kG:Int),v30= .int .i64 kG∧af (aN.l0 kq (bG.length:Int) kG bD bG bC bI bJ iR iG jq jr jt=some r)∧af (kq≤OG)∧af (w'.heap[fo]? =some (.cells #[.bool bD,(.slice cI bG.length cJ),.string bC,.string bI,.bool bJ] 32 (0,0)))∧af (w'.heap[fO]? =some (.cells #[.bool iR,(.slice oQ iG.length oU),.string jq,.string jr,.bool jt] 32 (0,0)))∧af (Below w.heap.size w w'))
    case atStart=>exact ⟨(0),dG,H',⟨Nat.le_refl _⟩,⟨oX⟩,⟨uW⟩,⟨oY⟩⟩
    case round=>
     clear H'
     obtain ⟨kG,rfl,HA,S6,dF,eB,HB⟩:=hrel
     cases gk with
     |zero=>exact absurd HA.out (by simp [aN.l0])
     |succ k2=>
      have H:=HA.out
      clear HA
      simp only [aN.l0] at H
      by_cases c20:kG < (bG.length:Int)
      ·rw [if_pos c20] at H
       have qA:=decide_eq_true c20
       clear c20
       obtain ⟨c21,H⟩:=jA H
       have FN:=decide_eq_true c21
       clear c21
       obtain ⟨xO,H⟩:=jA H
       have Jr:=decide_eq_true xO
       clear xO
       obtain ⟨c23,H⟩:=jA H
       have acI:=decide_eq_true c23
       clear c23
       by_cases c24:(jv ByteArray.empty bG kG).toList=(jv ByteArray.empty iG kG).toList
       ·rw [if_pos c24] at H
        have QL:=beq_iff_eq.mpr c24
        have QM:=bne_eq_false_iff_eq.mpr c24
        clear c24
        have H':=af.mk H
        clear H
        have acJ:=kf.out
        have acK:=kg.out
        have Vn:wr.cell? ⟨fo,0,none⟩=some (.bool bD):=(ah dF.out 0).trans rfl
        have Vo:wr.cell? ⟨fo,1,none⟩=some (.slice cI bG.length cJ):=(ah dF.out 1).trans rfl
        have Vp:wr.cell? ⟨fo,2,none⟩=some (.string bC):=(ah dF.out 2).trans rfl
        have Vq:wr.cell? ⟨fo,3,none⟩=some (.string bI):=(ah dF.out 3).trans rfl
        have Vr:wr.cell? ⟨fo,4,none⟩=some (.bool bJ):=(ah dF.out 4).trans rfl
        have Vs:=aa dF.out 0
        have Vt:=aa dF.out 1
        have Vu:=aa dF.out 2
        have Vv:=aa dF.out 3
        have Vw:=aa dF.out 4
        have Di: 0≤(kG:Int):=of_decide_eq_true cE
        have Dj:kG < (bG.length:Int):=of_decide_eq_true cE
        obtain ⟨QN,OV,oD⟩:=Kd.gB jK.out kG Di Dj
        cases OV
        replace oD:=(HB.out.cell (World.block_lt_of_cell? w _ oD)).trans oD
        replace Di:=eq_true Di
        replace Dj:=eq_true Dj
        have EP:wr.cell? ⟨fO,0,none⟩=some (.bool iR):=(ah eB.out 0).trans rfl
        have ER:wr.cell? ⟨fO,1,none⟩=some (.slice oQ iG.length oU):=(ah eB.out 1).trans rfl
        have LW:wr.cell? ⟨fO,2,none⟩=some (.string jq):=(ah eB.out 2).trans rfl
        have LX:wr.cell? ⟨fO,3,none⟩=some (.string jr):=(ah eB.out 3).trans rfl
        have LY:wr.cell? ⟨fO,4,none⟩=some (.bool jt):=(ah eB.out 4).trans rfl
        have ES:=aa eB.out 0
        have ET:=aa eB.out 1
        have LZ:=aa eB.out 2
        have L1:=aa eB.out 3
        have L3:=aa eB.out 4
        have Dk: 0≤(kG:Int):=of_decide_eq_true cE
        have Dl:kG < (iG.length:Int):=of_decide_eq_true cE
        obtain ⟨QO,OW,oF⟩:=Kd.gB FE.out kG Dk Dl
        cases OW
        replace oF:=(HB.out.cell (World.block_lt_of_cell? w _ oF)).trans oF
        replace Dk:=eq_true Dk
        replace Dl:=eq_true Dl
        go_wp2
        repeat (go_quiet (fail);try go_wp2)
        go_roundg k2
        case measure=>have:=HJ2.out;have:=S6.out;omega
        case rel=>exact ⟨(wrap64 (kG + 1)),dG,H',⟨by have:=HJ2.out;have:=S6.out;omega⟩,⟨oX⟩,⟨uW⟩,⟨oY⟩⟩
       ·rw [if_neg c24] at H
        have QL:=beq_eq_false_iff_ne.mpr c24
        have QM:=bne_iff_ne.mpr c24
        obtain rfl:=Option.some.inj H
        have acL:=kf.out
        have acM:=kg.out
        have EU:wr.cell? ⟨fo,0,none⟩=some (.bool bD):=(ah dF.out 0).trans rfl
        have EW:wr.cell? ⟨fo,1,none⟩=some (.slice cI bG.length cJ):=(ah dF.out 1).trans rfl
        have L4:wr.cell? ⟨fo,2,none⟩=some (.string bC):=(ah dF.out 2).trans rfl
        have Vx:wr.cell? ⟨fo,3,none⟩=some (.string bI):=(ah dF.out 3).trans rfl
        have Vy:wr.cell? ⟨fo,4,none⟩=some (.bool bJ):=(ah dF.out 4).trans rfl
        have EX:=aa dF.out 0
        have EY:=aa dF.out 1
        have L5:=aa dF.out 2
        have Vz:=aa dF.out 3
        have VA:=aa dF.out 4
        have Di: 0≤(kG:Int):=of_decide_eq_true cE
        have Dj:kG < (bG.length:Int):=of_decide_eq_true cE
        obtain ⟨QN,OV,oD⟩:=Kd.gB jK.out kG Di Dj
        cases OV
        replace oD:=(HB.out.cell (World.block_lt_of_cell? w _ oD)).trans oD
        replace Di:=eq_true Di
        replace Dj:=eq_true Dj
        have VB:wr.cell? ⟨fO,0,none⟩=some (.bool iR):=(ah eB.out 0).trans rfl
        have VC:wr.cell? ⟨fO,1,none⟩=some (.slice oQ iG.length oU):=(ah eB.out 1).trans rfl
        have VD:wr.cell? ⟨fO,2,none⟩=some (.string jq):=(ah eB.out 2).trans rfl
        have VE:wr.cell? ⟨fO,3,none⟩=some (.string jr):=(ah eB.out 3).trans rfl
        have VF:wr.cell? ⟨fO,4,none⟩=some (.bool jt):=(ah eB.out 4).trans rfl
        have VG:=aa eB.out 0
        have VH:=aa eB.out 1
        have VI:=aa eB.out 2
        have VJ:=aa eB.out 3
        have VK:=aa eB.out 4
        have Dk: 0≤(kG:Int):=of_decide_eq_true cE
        have Dl:kG < (iG.length:Int):=of_decide_eq_true cE
        obtain ⟨QO,OW,oF⟩:=Kd.gB FE.out kG Dk Dl
        cases OW
        replace oF:=(HB.out.cell (World.block_lt_of_cell? w _ oF)).trans oF
        replace Dk:=eq_true Dk
        replace Dl:=eq_true Dl
        go_wp2
        repeat (go_quiet (fail);try go_wp2)
        go_ret
        exact ⟨cM,oY⟩
      ·rw [if_neg c20] at H
       have qA:=decide_eq_false c20
       clear c20
       obtain rfl:=Option.some.inj H
       go_wp2
       repeat (go_quiet (fail);try go_wp2)
       go_ret
       exact ⟨cM,oY⟩
def bU.f (k:Nat) (a0:ByteArray) (iR:Bool) (iG:List ByteArray) (jq:ByteArray) (jr:ByteArray) (jt:Bool):Option (Bool):=if a0.size + 2≤9223372036854775807 then ((bM.f k (a0 ++ (⟨#[32,122]⟩:ByteArray))).bind fun ng=>(if ng.2.2.2.2.2.2=0 then (if ng.2.2.2.2.2.1=(a0.size:Int) then ((aN.f k iR iG jq jr jt ng.1 ng.2.1 ng.2.2.1 ng.2.2.2.1 ng.2.2.2.2.1).bind fun t237=>(some t237)) else (none)) else (none))) else (none)
theorem bU.mono:∀ a0 a1 a2 a3 a4 a5 k,bZ (bU.f k a0 a1 a2 a3 a4 a5) (bU.f (k + 1) a0 a1 a2 a3 a4 a5):=by
 intro a0 a1 a2 a3 a4 a5 k
 unfold bU.f
 repeat' first
  |(with_reducible first|exact aN.mono _ _ _ _ _ _ _ _ _ _ _|exact bM.mono _ _|exact bZ.refl _|exact bZ.none _|refine bZ.ite ?_ ?_|refine bZ.bind ?_ (fun _ =>?_))
  |exact aN.mono _ _ _ _ _ _ _ _ _ _ _
  |exact bM.mono _ _
  |exact bZ.none _
  |refine bZ.ite ?_ ?_
  |refine bZ.bind ?_ (fun _ =>?_)
theorem bU.calls (k:Nat) (a0:ByteArray) (iR:Bool) (oQ:Option Addr) (oU:Nat) (iG:List ByteArray) (jq:ByteArray) (jr:ByteArray) (jt:Bool) (r:Bool) (w:World) (Bh:Kd.C Kd.string w oQ iG.length iG) (Bi:iG.length≤oU) (hG:aQ w) (h:bU.f k a0 iR iG jq jr jt=some r):
 Calls Tryz.prog 62 #[.string a0,.agg #[.bool iR,.slice oQ iG.length oU,.string jq,.string jr,.bool jt]] w fun e w'=>e= .returned (.bool r)∧Below w.heap.size w w':=by
 have Dh:=Tryz.underlying32
 have FE:=af.mk Bh
 have NJ:=af.mk Bi
 clear Bh Bi
 have HB:=af.mk (Below.refl w.heap.size w)
 have HG:=af.mk hG
 clear hG
 have H:(if a0.size + 2≤9223372036854775807 then ((bM.f k (a0 ++ (⟨#[32,122]⟩:ByteArray))).bind fun ng=>(if ng.2.2.2.2.2.2=0 then (if ng.2.2.2.2.2.1=(a0.size:Int) then ((aN.f k iR iG jq jr jt ng.1 ng.2.1 ng.2.2.1 ng.2.2.2.1 ng.2.2.2.2.1).bind fun t237=>(some t237)) else (none)) else (none))) else (none))=some r:=h
 clear h
 obtain ⟨c3,H⟩:=jA H
 have mh:=eq_true c3
 have CV:=decide_eq_true c3
 try have aaQ:(9223372036854775807 < a0.size + 2)=False:=eq_false (Nat.not_lt.2 c3)
 obtain ⟨⟨t227,t228,t231,t232,t233,t234,t235⟩,A4,H⟩:=bd_ H
 (try dsimp only at H)
 obtain ⟨c5,H⟩:=jA H
 have pG:=beq_iff_eq.mpr c5
 have K5:=bne_eq_false_iff_eq.mpr c5
 clear c5
 obtain ⟨c6,H⟩:=jA H
 have qo:=beq_iff_eq.mpr c6
 have CW:=bne_eq_false_iff_eq.mpr c6
 clear c6
 obtain ⟨t237,A7,H⟩:=bd_ H
 obtain rfl:=Option.some.inj H
 go_enter Tryz.func62,Tryz.ntmps62
 go_wp2_with (first|((with_reducible refine cU (N:=3) rfl ?_);(try (refine cW (by rfl) ?_;dsimp only));refine cL ?hg (N:=3) ?hd (cs:=#[.bool iR,.slice oQ iG.length oU,.string jq,.string jr,.bool jt]) (t:=32) ?hr ?_;(case hd=>rfl);(case hg=>rfl);(case hr=>first|(go_simp;done)|(go_simp;rfl));intro qC hg w8 dg hb;have mP:=af.mk (dg);have acN:=af.mk ((eo:w.heap.size≤qC));have Hw:=af.mk ((eo:w.heap.size≤qC));replace HB:=af.mk (aH bS hb);clear hb dg hg)|((with_reducible refine aU (f:=17) rfl ?_);refine bY (some 11) rfl rfl Tryz.func17 ay rfl #[.string (a0 ++ (⟨#[32,122]⟩:ByteArray))] rfl cr ?_;(with_reducible refine (bM.calls k (a0 ++ (⟨#[32,122]⟩:ByteArray)) t227 t228 t231 t232 t233 t234 t235 _ ?aX A4.out).mono ?_);(case aX=>exact aQ.below HG.out yR);rintro e w9 ⟨v229,rfl,ho0,hb⟩;refine ⟨_,rfl,?_⟩;have xD:=af.mk (Kd.lu ho0 (fy yR));replace mP:=af.mk (bq yX hb);replace HB:=af.mk (aH yR hb);(try clear hb);(try clear ho0))|((with_reducible refine cU (N:=5) rfl ?_);(try (refine cW (by rfl) ?_;dsimp only));refine cL ?hg (N:=5) ?hd (cs:=#[.bool false,.slice none 0 0,.string (⟨#[]⟩:ByteArray),.string (⟨#[]⟩:ByteArray),.bool false]) (t:=32) ?hr ?_;(case hd=>rfl);(case hg=>rfl);(case hr=>first|(go_simp;done)|(go_simp;rfl));intro mO hg sB dg hb;replace xD:=af.mk (Kd.dD (by (with_reducible repeat (first|apply Kd.fB|apply Kd.fC|apply Kd.gz));exact xD.out) hb);have nT:=af.mk (dg);have acO:=af.mk ((Ij:w.heap.size≤mO));have PV:=af.mk ((Ij:w.heap.size≤mO));replace HB:=af.mk (aH yR hb);have mF:=af.mk ((by rw [hg];exact Nat.ne_of_lt (jd yX):qC≠mO));have GC:=af.mk ((by rw [hg];exact Nat.ne_of_gt (jd yX):mO≠qC));replace mP:=af.mk (bq yX hb);clear hb dg hg;have QJ:=GC.out;have QK:=mF.out;have zN:sB.cell? ⟨mO,0,none⟩=some (.bool false):=(ah nT.out 0).trans rfl;have zO:sB.cell? ⟨mO,1,none⟩=some (.slice none 0 0):=(ah nT.out 1).trans rfl;have FI:sB.cell? ⟨mO,2,none⟩=some (.string (⟨#[]⟩:ByteArray)):=(ah nT.out 2).trans rfl;have LM:sB.cell? ⟨mO,3,none⟩=some (.string (⟨#[]⟩:ByteArray)):=(ah nT.out 3).trans rfl;have LN:sB.cell? ⟨mO,4,none⟩=some (.bool false):=(ah nT.out 4).trans rfl;have zP:=aa nT.out 0;have zQ:=aa nT.out 1;have FJ:=aa nT.out 2;have LP:=aa nT.out 3;have LQ:=aa nT.out 4;obtain ⟨Ia,Gl,aaR⟩:=Kd.jm xD.out;subst aaR;have EF:sB.cell? ⟨qC,0,none⟩=some (.bool iR):=(ah mP.out 0).trans rfl;have EG:sB.cell? ⟨qC,1,none⟩=some (.slice oQ iG.length oU):=(ah mP.out 1).trans rfl;have L6:sB.cell? ⟨qC,2,none⟩=some (.string jq):=(ah mP.out 2).trans rfl;have L8:sB.cell? ⟨qC,3,none⟩=some (.string jr):=(ah mP.out 3).trans rfl;have L9:sB.cell? ⟨qC,4,none⟩=some (.bool jt):=(ah mP.out 4).trans rfl;have EH:=aa mP.out 0;have EI:=aa mP.out 1;have Ma:=aa mP.out 2;have Mb:=aa mP.out 3;have Mc:=aa mP.out 4)|(go_at_call 18;(with_reducible refine (aN.calls k iR _ _ iG jq jr jt t227 _ _ t228 t231 t232 t233 t237 _ ?aX ?bL ?eF ?Bj A7.out).mono ?_);(case aX=>exact Kd.fR FE.out Cw);(case bL=>exact NJ.out);(case eF=>refine (Kd.gy (e:=9) (base:=w.heap.size) (ok:=fun k_ =>True) (n:=t228.length) (c:=Gl) ?_).2.2;exact H7);(case Bj=>exact (Kd.gy xD.out).2.1);rintro e Kw ⟨rfl,hb⟩;replace xD:=af.mk (Kd.dD H7 hb);replace mP:=af.mk (bq (g:=qC) (o:= .cells #[.bool iR,.slice oQ iG.length oU,.string jq,.string jr,.bool jt] 32 (0,0)) (by (with_reducible repeat (first|refine aR ?_ _|refine aY ?_|refine aM ?_ _));refine dU ?_ mF.out _;(with_reducible repeat (first|refine aR ?_ _|refine aY ?_|refine aM ?_ _));refine dU ?_ mF.out _;(with_reducible repeat (first|refine aR ?_ _|refine aY ?_|refine aM ?_ _));refine dU ?_ mF.out _;(with_reducible repeat (first|refine aR ?_ _|refine aY ?_|refine aM ?_ _));refine dU ?_ mF.out _;(with_reducible repeat (first|refine aR ?_ _|refine aY ?_|refine aM ?_ _));refine dU ?_ mF.out _;(with_reducible repeat (first|refine aR ?_ _|refine aY ?_|refine aM ?_ _));exact mP.out) hb);replace nT:=af.mk (bq (g:=mO) (o:= .cells #[.bool t227,.slice Ia t228.length Gl,.string t231,.string t232,.bool t233] 32 (0,0)) (by (with_reducible repeat (first|refine aR ?_ _|refine aY ?_|refine aM ?_ _));refine cF (cs:=#[.bool t227,.slice Ia t228.length Gl,.string t231,.string t232,.bool false]) ?_ 4 _ rfl;(with_reducible repeat (first|refine aR ?_ _|refine aY ?_|refine aM ?_ _));refine cF (cs:=#[.bool t227,.slice Ia t228.length Gl,.string t231,.string (⟨#[]⟩:ByteArray),.bool false]) ?_ 3 _ rfl;(with_reducible repeat (first|refine aR ?_ _|refine aY ?_|refine aM ?_ _));refine cF (cs:=#[.bool t227,.slice Ia t228.length Gl,.string (⟨#[]⟩:ByteArray),.string (⟨#[]⟩:ByteArray),.bool false]) ?_ 2 _ rfl;(with_reducible repeat (first|refine aR ?_ _|refine aY ?_|refine aM ?_ _));refine cF (cs:=#[.bool t227,.slice none 0 0,.string (⟨#[]⟩:ByteArray),.string (⟨#[]⟩:ByteArray),.bool false]) ?_ 1 _ rfl;(with_reducible repeat (first|refine aR ?_ _|refine aY ?_|refine aM ?_ _));refine cF (cs:=#[.bool false,.slice none 0 0,.string (⟨#[]⟩:ByteArray),.string (⟨#[]⟩:ByteArray),.bool false]) ?_ 0 _ rfl;(with_reducible repeat (first|refine aR ?_ _|refine aY ?_|refine aM ?_ _));exact nT.out) hb);replace HB:=af.mk (aH Cw hb);(try clear hb);(try clear hk)))
 go_ret
 exact ⟨cM,Cw⟩
end Go.Proofs.YtokpnfljjjjikaaGreatDoor.lO
