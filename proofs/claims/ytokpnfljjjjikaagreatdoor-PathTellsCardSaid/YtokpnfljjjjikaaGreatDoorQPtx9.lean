import Derived.Test.YtokpnfljjjjikaaGreatDoorQPtx1
import Derived.Test.YtokpnfljjjjikaaGreatDoorQPtx8
set_option maxHeartbeats 8000000
set_option maxRecDepth 100000
namespace Go.Proofs.YtokpnfljjjjikaaGreatDoor.mY
open Go.RowKit Go.Proofs.YtokpnfljjjjikaaGreatDoor.qP Go.Proofs.aj.bO Go.Proofs.aj.fA Go.Proofs.aj.cK
attribute [local go_sem] ia ig iU iV gf gh ij iq
set_option linter.unusedVariables false
set_option linter.unusedSimpArgs false
attribute [local go_sem high] QW
mutual
def br.j0:Nat→Bool→Bool→List ByteArray→ByteArray→ByteArray→Bool→Bool→List ByteArray→ByteArray→ByteArray→Bool→Option (Bool)
 | 0,_,_,_,_,_,_,_,_,_,_,_ =>none
 |k + 1,x26,JV,yt,JW,JX,JY,JZ,Bf,J0,J1,J2=>if x26=true then (some false) else (br.l0 k (yt.length:Int) 0 JV yt JW JX JY JZ Bf J0 J1 J2)
def br.l0:Nat→Int→Int→Bool→List ByteArray→ByteArray→ByteArray→Bool→Bool→List ByteArray→ByteArray→ByteArray→Bool→Option (Bool)
 | 0,_,_,_,_,_,_,_,_,_,_,_,_ =>none
 |k + 1,x29,x30,JV,yt,JW,JX,JY,JZ,Bf,J0,J1,J2=>if x30 < x29 then (if 0≤x30 then (if x30 < (yt.length:Int) then (if x30 < (Bf.length:Int) then (if (cV ByteArray.empty yt x30).toList=(cV ByteArray.empty Bf x30).toList then (br.l0 k x29 (wrap64 (x30 + 1)) JV yt JW JX JY JZ Bf J0 J1 J2) else (some false)) else (none)) else (none)) else (none)) else (some true)
end
def br.f (k:Nat) (bS:Bool) (cC:List ByteArray) (cg:ByteArray) (cN:ByteArray) (cR:Bool) (eN:Bool) (dO:List ByteArray) (eo:ByteArray) (eF:ByteArray) (eI:Bool):Option (Bool):=if (bS != eN)=true then (br.j0 k true bS cC cg cN cR eN dO eo eF eI) else (if (!(cg.toList == eo.toList) || (!(cN.toList == eF.toList) || (!(cR == eI))))=true then (br.j0 k true bS cC cg cN cR eN dO eo eF eI) else (br.j0 k ((cC.length:Int) != (dO.length:Int)) bS cC cg cN cR eN dO eo eF eI))
theorem br.dF:∀ k,(∀ y0 y1 y2 y3 y4 y5 y6 y7 y8 y9 Fy,bL (br.j0 k y0 y1 y2 y3 y4 y5 y6 y7 y8 y9 Fy) (br.j0 (k + 1) y0 y1 y2 y3 y4 y5 y6 y7 y8 y9 Fy))∧(∀ y0 y1 y2 y3 y4 y5 y6 y7 y8 y9 Fy y11,bL (br.l0 k y0 y1 y2 y3 y4 y5 y6 y7 y8 y9 Fy y11) (br.l0 (k + 1) y0 y1 y2 y3 y4 y5 y6 y7 y8 y9 Fy y11))
 | 0=>⟨fun _ _ _ _ _ _ _ _ _ _ _ r h=>by simp [br.j0] at h,fun _ _ _ _ _ _ _ _ _ _ _ _ r h=>by simp [br.l0] at h⟩
 |k + 1=>by
  obtain ⟨fV,ih1⟩:=br.dF k
  refine ⟨?_,?_⟩
  ·intro y0 y1 y2 y3 y4 y5 y6 y7 y8 y9 Fy
   unfold br.j0
   repeat' first
   |(with_reducible first|exact fV _ _ _ _ _ _ _ _ _ _ _|exact ih1 _ _ _ _ _ _ _ _ _ _ _ _|exact bL.refl _|exact bL.none _|refine bL.ite ?_ ?_|refine bL.bind ?_ (fun _ =>?_))
   |exact fV _ _ _ _ _ _ _ _ _ _ _
   |exact ih1 _ _ _ _ _ _ _ _ _ _ _ _
   |exact bL.none _
   |refine bL.ite ?_ ?_
   |refine bL.bind ?_ (fun _ =>?_)
  ·intro y0 y1 y2 y3 y4 y5 y6 y7 y8 y9 Fy y11
   unfold br.l0
   repeat' first
   |(with_reducible first|exact fV _ _ _ _ _ _ _ _ _ _ _|exact ih1 _ _ _ _ _ _ _ _ _ _ _ _|exact bL.refl _|exact bL.none _|refine bL.ite ?_ ?_|refine bL.bind ?_ (fun _ =>?_))
   |exact fV _ _ _ _ _ _ _ _ _ _ _
   |exact ih1 _ _ _ _ _ _ _ _ _ _ _ _
   |exact bL.none _
   |refine bL.ite ?_ ?_
   |refine bL.bind ?_ (fun _ =>?_)
theorem br.mono:∀ a0 a1 a2 a3 a4 a5 a6 a7 a8 a9 k,bL (br.f k a0 a1 a2 a3 a4 a5 a6 a7 a8 a9) (br.f (k + 1) a0 a1 a2 a3 a4 a5 a6 a7 a8 a9):=by
 intro a0 a1 a2 a3 a4 a5 a6 a7 a8 a9 k
 obtain ⟨fV,ih1⟩:=br.dF k
 unfold br.f
 repeat' first
  |(with_reducible first|exact fV _ _ _ _ _ _ _ _ _ _ _|exact ih1 _ _ _ _ _ _ _ _ _ _ _ _|exact bL.refl _|exact bL.none _|refine bL.ite ?_ ?_|refine bL.bind ?_ (fun _ =>?_))
  |exact fV _ _ _ _ _ _ _ _ _ _ _
  |exact ih1 _ _ _ _ _ _ _ _ _ _ _ _
  |exact bL.none _
  |refine bL.ite ?_ ?_
  |refine bL.bind ?_ (fun _ =>?_)
theorem br.calls (k:Nat) (bS:Bool) (fC:Option Addr) (fD:Nat) (cC:List ByteArray) (cg:ByteArray) (cN:ByteArray) (cR:Bool) (eN:Bool) (iW:Option Addr) (iX:Nat) (dO:List ByteArray) (eo:ByteArray) (eF:ByteArray) (eI:Bool) (r:Bool) (w:World) (oX:Kd.C Kd.string w fC cC.length cC) (oY:cC.length≤fD) (wU:Kd.C Kd.string w iW dO.length dO) (wV:dO.length≤iX) (h:br.f k bS cC cg cN cR eN dO eo eF eI=some r):
 Calls Tryz.prog 18 #[.agg #[.bool bS,.slice fC cC.length fD,.string cg,.string cN,.bool cR],.agg #[.bool eN,.slice iW dO.length iX,.string eo,.string eF,.bool eI]] w fun e w'=>e= .returned (.bool r)∧Below w.heap.size w w':=by
 have DA:=Tryz.underlying32
 have wT:=Tryz.underlying30
 have mI:=aa.mk oX
 have oZ:=aa.mk oY
 clear oX oY
 have tM:=aa.mk wU
 have CY:=aa.mk wV
 clear wU wV
 have HB:=aa.mk (Below.refl w.heap.size w)
 have H:(if (bS != eN)=true then (br.j0 k true bS cC cg cN cR eN dO eo eF eI) else (if (!(cg.toList == eo.toList) || (!(cN.toList == eF.toList) || (!(cR == eI))))=true then (br.j0 k true bS cC cg cN cR eN dO eo eF eI) else (br.j0 k ((cC.length:Int) != (dO.length:Int)) bS cC cg cN cR eN dO eo eF eI)))=some r:=h
 clear h
 have Fk:=aa.mk H
 clear H
 go_enter Tryz.func18,Tryz.ntmps18
 go_upto_region 1 with (first|((with_reducible refine cB (N:=2) rfl ?_);(try (refine cL (by rfl) ?_;dsimp only));refine cj ?hg (N:=2) ?hd (cs:=#[.bool bS,.slice fC cC.length fD,.string cg,.string cN,.bool cR]) (t:=32) ?hr ?_;(case hd=>rfl);(case hg=>rfl);(case hr=>first|(go_simp;done)|(go_simp;rfl));intro iQ hg w4 cE hb;have fM:=aa.mk (cE);have abT:=aa.mk ((dI:w.heap.size≤iQ));have Lj:=aa.mk ((dI:w.heap.size≤iQ));replace HB:=aa.mk (aA bG hb);clear hb cE hg)|((with_reducible refine cB (N:=3) rfl ?_);(try (refine cL (by rfl) ?_;dsimp only));refine cj ?hg (N:=3) ?hd (cs:=#[.bool eN,.slice iW dO.length iX,.string eo,.string eF,.bool eI]) (t:=32) ?hr ?_;(case hd=>rfl);(case hg=>rfl);(case hr=>first|(go_simp;done)|(go_simp;rfl));intro jA hg w5 cE hb;have gY:=aa.mk (cE);have abU:=aa.mk ((BQ:w.heap.size≤jA));have UT:=aa.mk ((BQ:w.heap.size≤jA));replace HB:=aa.mk (aA Nw hb);have o7:=aa.mk ((IU:iQ≠jA));have o8:=aa.mk ((IV:jA≠iQ));replace fM:=aa.mk (aC wk hb);clear hb cE hg))
 repeat (go_quiet (first|((with_reducible refine cB (N:=2) rfl ?_);(try (refine cL (by rfl) ?_;dsimp only));refine cj ?hg (N:=2) ?hd (cs:=#[.bool bS,.slice fC cC.length fD,.string cg,.string cN,.bool cR]) (t:=32) ?hr ?_;(case hd=>rfl);(case hg=>rfl);(case hr=>first|(go_simp;done)|(go_simp;rfl));intro iQ hg w4 cE hb;have fM:=aa.mk (cE);have abT:=aa.mk ((dI:w.heap.size≤iQ));have Lj:=aa.mk ((dI:w.heap.size≤iQ));replace HB:=aa.mk (aA bG hb);clear hb cE hg)|((with_reducible refine cB (N:=3) rfl ?_);(try (refine cL (by rfl) ?_;dsimp only));refine cj ?hg (N:=3) ?hd (cs:=#[.bool eN,.slice iW dO.length iX,.string eo,.string eF,.bool eI]) (t:=32) ?hr ?_;(case hd=>rfl);(case hg=>rfl);(case hr=>first|(go_simp;done)|(go_simp;rfl));intro jA hg w5 cE hb;have gY:=aa.mk (cE);have abU:=aa.mk ((BQ:w.heap.size≤jA));have UT:=aa.mk ((BQ:w.heap.size≤jA));replace HB:=aa.mk (aA Nw hb);have o7:=aa.mk ((IU:iQ≠jA));have o8:=aa.mk ((IV:jA≠iQ));replace fM:=aa.mk (aC wk hb);clear hb cE hg));go_upto_region 1 with (first|((with_reducible refine cB (N:=2) rfl ?_);(try (refine cL (by rfl) ?_;dsimp only));refine cj ?hg (N:=2) ?hd (cs:=#[.bool bS,.slice fC cC.length fD,.string cg,.string cN,.bool cR]) (t:=32) ?hr ?_;(case hd=>rfl);(case hg=>rfl);(case hr=>first|(go_simp;done)|(go_simp;rfl));intro iQ hg w4 cE hb;have fM:=aa.mk (cE);have abT:=aa.mk ((dI:w.heap.size≤iQ));have Lj:=aa.mk ((dI:w.heap.size≤iQ));replace HB:=aa.mk (aA bG hb);clear hb cE hg)|((with_reducible refine cB (N:=3) rfl ?_);(try (refine cL (by rfl) ?_;dsimp only));refine cj ?hg (N:=3) ?hd (cs:=#[.bool eN,.slice iW dO.length iX,.string eo,.string eF,.bool eI]) (t:=32) ?hr ?_;(case hd=>rfl);(case hg=>rfl);(case hr=>first|(go_simp;done)|(go_simp;rfl));intro jA hg w5 cE hb;have gY:=aa.mk (cE);have abU:=aa.mk ((BQ:w.heap.size≤jA));have UT:=aa.mk ((BQ:w.heap.size≤jA));replace HB:=aa.mk (aA Nw hb);have o7:=aa.mk ((IU:iQ≠jA));have o8:=aa.mk ((IV:jA≠iQ));replace fM:=aa.mk (aC wk hb);clear hb cE hg)))
 (try simp only [Act.put,List.setIfInBounds_toArray,List.set_cons_zero,List.set_cons_succ])
 go_cut [26] (fun v26 wc=>∃ (kq:Nat) (Bg:Bool),v26= .bool Bg∧aa (br.j0 kq Bg bS cC cg cN cR eN dO eo eF eI=some r)∧aa (kq≤k)∧aa (wc.heap[iQ]? =some (.cells #[.bool bS,(.slice fC cC.length fD),.string cg,.string cN,.bool cR] 32 (0,0)))∧aa (wc.heap[jA]? =some (.cells #[.bool eN,(.slice iW dO.length iX),.string eo,.string eF,.bool eI] 32 (0,0)))∧aa (Below w.heap.size w wc))
 case first=>
  have H:=Fk.out
  clear Fk
  by_cases c6:(bS != eN)=true
  ·rw [if_pos c6] at H
   have nL:(bS != eN)=true:=c6
   (try (have wK:decide (bS=eN)=false:=by simpa using c6))
   (try (have V6:(bS == eN)=false:=by simpa using c6))
   (try (have ZA: ¬ (bS=eN):=by simpa using c6))
   clear c6
   (first|rw [nL]|(simp only [cU,dh];rw [nL])|skip)
   have H':=aa.mk H
   clear H
   have apg:=o7.out
   have aph:=o8.out
   have zy:w5.cell? ⟨iQ,0,none⟩=some (.bool bS):=(ah fM.out 0).trans rfl
   have zz:w5.cell? ⟨iQ,1,none⟩=some (.slice fC cC.length fD):=(ah fM.out 1).trans rfl
   have Fq:w5.cell? ⟨iQ,2,none⟩=some (.string cg):=(ah fM.out 2).trans rfl
   have Oj:w5.cell? ⟨iQ,3,none⟩=some (.string cN):=(ah fM.out 3).trans rfl
   have Ol:w5.cell? ⟨iQ,4,none⟩=some (.bool cR):=(ah fM.out 4).trans rfl
   have zA:=af fM.out 0
   have zB:=af fM.out 1
   have Fu:=af fM.out 2
   have Om:=af fM.out 3
   have Oo:=af fM.out 4
   have rG:w5.cell? ⟨jA,0,none⟩=some (.bool eN):=(ah gY.out 0).trans rfl
   have rH:w5.cell? ⟨jA,1,none⟩=some (.slice iW dO.length iX):=(ah gY.out 1).trans rfl
   have zD:w5.cell? ⟨jA,2,none⟩=some (.string eo):=(ah gY.out 2).trans rfl
   have J3:w5.cell? ⟨jA,3,none⟩=some (.string eF):=(ah gY.out 3).trans rfl
   have J4:w5.cell? ⟨jA,4,none⟩=some (.bool eI):=(ah gY.out 4).trans rfl
   have rI:=af gY.out 0
   have rJ:=af gY.out 1
   have zE:=af gY.out 2
   have J5:=af gY.out 3
   have J6:=af gY.out 4
   go_wp2
   repeat (go_quiet (fail);try go_wp2)
   go_meet
   case rel=>exact ⟨_,(true),b9,H',⟨iT⟩,⟨wk⟩,⟨Ao⟩,⟨wq⟩⟩
  ·rw [if_neg c6] at H
   have nL:(bS != eN)=false:=by simpa using c6
   (try (have wK:decide (bS=eN)=true:=by simpa using c6))
   (try (have V6:(bS == eN)=true:=by simpa using c6))
   clear c6
   (first|rw [nL]|(simp only [cU,dh];rw [nL])|skip)
   by_cases c10:(!(cg.toList == eo.toList) || (!(cN.toList == eF.toList) || (!(cR == eI))))=true
   ·rw [if_pos c10] at H
    have pR:(!(cg.toList == eo.toList) || (!(cN.toList == eF.toList) || (!(cR == eI))))=true:=c10
    clear c10
    have H':=aa.mk H
    clear H
    have abV:=o7.out
    have abW:=o8.out
    have yu:w5.cell? ⟨iQ,0,none⟩=some (.bool bS):=(ah fM.out 0).trans rfl
    have yw:w5.cell? ⟨iQ,1,none⟩=some (.slice fC cC.length fD):=(ah fM.out 1).trans rfl
    have Ei:w5.cell? ⟨iQ,2,none⟩=some (.string cg):=(ah fM.out 2).trans rfl
    have RF:w5.cell? ⟨iQ,3,none⟩=some (.string cN):=(ah fM.out 3).trans rfl
    have RG:w5.cell? ⟨iQ,4,none⟩=some (.bool cR):=(ah fM.out 4).trans rfl
    have yx:=af fM.out 0
    have yz:=af fM.out 1
    have Ej:=af fM.out 2
    have RH:=af fM.out 3
    have RI:=af fM.out 4
    have qD:w5.cell? ⟨jA,0,none⟩=some (.bool eN):=(ah gY.out 0).trans rfl
    have qE:w5.cell? ⟨jA,1,none⟩=some (.slice iW dO.length iX):=(ah gY.out 1).trans rfl
    have vo:w5.cell? ⟨jA,2,none⟩=some (.string eo):=(ah gY.out 2).trans rfl
    have Ek:w5.cell? ⟨jA,3,none⟩=some (.string eF):=(ah gY.out 3).trans rfl
    have El:w5.cell? ⟨jA,4,none⟩=some (.bool eI):=(ah gY.out 4).trans rfl
    have qF:=af gY.out 0
    have qG:=af gY.out 1
    have vp:=af gY.out 2
    have Em:=af gY.out 3
    have En:=af gY.out 4
    go_wp2
    repeat (go_quiet (fail);try go_wp2)
    go_meet
    case rel=>exact ⟨_,(true),b9,H',⟨iT⟩,⟨wk⟩,⟨Ao⟩,⟨wq⟩⟩
   ·rw [if_neg c10] at H
    have pR:(!(cg.toList == eo.toList) || (!(cN.toList == eF.toList) || (!(cR == eI))))=false:=by simpa using c10
    clear c10
    have H':=aa.mk H
    clear H
    have V2:=o7.out
    have V3:=o8.out
    have J7:w5.cell? ⟨iQ,0,none⟩=some (.bool bS):=(ah fM.out 0).trans rfl
    have J8:w5.cell? ⟨iQ,1,none⟩=some (.slice fC cC.length fD):=(ah fM.out 1).trans rfl
    have J9:w5.cell? ⟨iQ,2,none⟩=some (.string cg):=(ah fM.out 2).trans rfl
    have ZB:w5.cell? ⟨iQ,3,none⟩=some (.string cN):=(ah fM.out 3).trans rfl
    have ZC:w5.cell? ⟨iQ,4,none⟩=some (.bool cR):=(ah fM.out 4).trans rfl
    have Ka:=af fM.out 0
    have Kb:=af fM.out 1
    have Ke:=af fM.out 2
    have ZE:=af fM.out 3
    have ZF:=af fM.out 4
    have AV:w5.cell? ⟨jA,0,none⟩=some (.bool eN):=(ah gY.out 0).trans rfl
    have AW:w5.cell? ⟨jA,1,none⟩=some (.slice iW dO.length iX):=(ah gY.out 1).trans rfl
    have JO:w5.cell? ⟨jA,2,none⟩=some (.string eo):=(ah gY.out 2).trans rfl
    have JP:w5.cell? ⟨jA,3,none⟩=some (.string eF):=(ah gY.out 3).trans rfl
    have JQ:w5.cell? ⟨jA,4,none⟩=some (.bool eI):=(ah gY.out 4).trans rfl
    have AX:=af gY.out 0
    have AY:=af gY.out 1
    have JR:=af gY.out 2
    have JS:=af gY.out 3
    have JT:=af gY.out 4
    go_wp2
    repeat (go_quiet (fail);try go_wp2)
    go_meet
    case rel=>exact ⟨_,(((cC.length:Int) != (dO.length:Int))),b9,H',⟨iT⟩,⟨wk⟩,⟨Ao⟩,⟨wq⟩⟩
 case rest=>
  clear Fk
  obtain ⟨kq,Bg,rfl,HA,Lp,fM,gY,HB⟩:=hcut
  cases kq with
  |zero=>exact absurd HA.out (by simp [br.j0])
  |succ Fl=>
   have H:=HA.out
   clear HA
   simp only [br.j0] at H
   by_cases c17:Bg=true
   ·subst c17
    rw [if_pos rfl] at H
    obtain rfl:=Option.some.inj H
    go_wp2
    repeat (go_quiet (fail);try go_wp2)
    go_ret
    exact ⟨cH,wq⟩
   ·replace c17:=Bool.eq_false_iff.mpr c17
    subst c17
    rw [if_neg (show ¬ (false=true) by decide)] at H
    have H':=aa.mk H
    clear H
    have af5:=o7.out
    have af6:=o8.out
    have ZG:wc.cell? ⟨iQ,0,none⟩=some (.bool bS):=(ah fM.out 0).trans rfl
    have ZH:wc.cell? ⟨iQ,1,none⟩=some (.slice fC cC.length fD):=(ah fM.out 1).trans rfl
    have ZI:wc.cell? ⟨iQ,2,none⟩=some (.string cg):=(ah fM.out 2).trans rfl
    have alm:wc.cell? ⟨iQ,3,none⟩=some (.string cN):=(ah fM.out 3).trans rfl
    have aln:wc.cell? ⟨iQ,4,none⟩=some (.bool cR):=(ah fM.out 4).trans rfl
    have ZJ:=af fM.out 0
    have ZK:=af fM.out 1
    have ZL:=af fM.out 2
    have alo:=af fM.out 3
    have alp:=af fM.out 4
    go_wp2
    repeat (go_quiet (fail);try go_wp2)
    go_loopg [30] Fl (fun kq v30 w'=>∃ (pT:Int),v30= .int .i64 pT∧aa (br.l0 kq (cC.length:Int) pT bS cC cg cN cR eN dO eo eF eI=some r)∧aa (kq≤Fl)∧aa (w'.heap[iQ]? =some (.cells #[.bool bS,(.slice fC cC.length fD),.string cg,.string cN,.bool cR] 32 (0,0)))∧aa (w'.heap[jA]? =some (.cells #[.bool eN,(.slice iW dO.length iX),.string eo,.string eF,.bool eI] 32 (0,0)))∧aa (Below w.heap.size w w'))
    case atStart=>exact ⟨(0),b9,H',⟨Nat.le_refl _⟩,⟨wk⟩,⟨Ao⟩,⟨wq⟩⟩
    case round=>
     clear H'
     obtain ⟨pT,rfl,HA,uI,fM,gY,HB⟩:=hrel
     cases gk with
     |zero=>exact absurd HA.out (by simp [br.l0])
     |succ k2=>
      have H:=HA.out
      clear HA
      simp only [br.l0] at H
      by_cases c20:pT < (cC.length:Int)
      ·rw [if_pos c20] at H
       have Fz:=decide_eq_true c20
       clear c20
       obtain ⟨c21,H⟩:=iA H
       have wW:=decide_eq_true c21
       clear c21
       obtain ⟨GU,H⟩:=iA H
       have V7:=decide_eq_true GU
       clear GU
       obtain ⟨BO,H⟩:=iA H
       have wX:=decide_eq_true BO
       clear BO
       by_cases c24:(cV ByteArray.empty cC pT).toList=(cV ByteArray.empty dO pT).toList
       ·rw [if_pos c24] at H
        have RJ:=beq_iff_eq.mpr c24
        have abX:=bne_eq_false_iff_eq.mpr c24
        clear c24
        have H':=aa.mk H
        clear H
        have af7:=o7.out
        have af8:=o8.out
        have Kf:wr.cell? ⟨iQ,0,none⟩=some (.bool bS):=(ah fM.out 0).trans rfl
        have Kg:wr.cell? ⟨iQ,1,none⟩=some (.slice fC cC.length fD):=(ah fM.out 1).trans rfl
        have Kh:wr.cell? ⟨iQ,2,none⟩=some (.string cg):=(ah fM.out 2).trans rfl
        have ZM:wr.cell? ⟨iQ,3,none⟩=some (.string cN):=(ah fM.out 3).trans rfl
        have ZN:wr.cell? ⟨iQ,4,none⟩=some (.bool cR):=(ah fM.out 4).trans rfl
        have Ki:=af fM.out 0
        have Kj:=af fM.out 1
        have Kk:=af fM.out 2
        have ZO:=af fM.out 3
        have ZP:=af fM.out 4
        have Oq: 0≤(pT:Int):=of_decide_eq_true bp
        have Ot:pT < (cC.length:Int):=of_decide_eq_true bp
        obtain ⟨af9,adu,vq⟩:=Kd.cY mI.out pT Oq Ot
        cases adu
        replace vq:=(HB.out.cell (World.block_lt_of_cell? w _ vq)).trans vq
        replace Oq:=eq_true Oq
        replace Ot:=eq_true Ot
        have uZ:wr.cell? ⟨jA,0,none⟩=some (.bool eN):=(ah gY.out 0).trans rfl
        have u5:wr.cell? ⟨jA,1,none⟩=some (.slice iW dO.length iX):=(ah gY.out 1).trans rfl
        have yA:wr.cell? ⟨jA,2,none⟩=some (.string eo):=(ah gY.out 2).trans rfl
        have yB:wr.cell? ⟨jA,3,none⟩=some (.string eF):=(ah gY.out 3).trans rfl
        have yC:wr.cell? ⟨jA,4,none⟩=some (.bool eI):=(ah gY.out 4).trans rfl
        have u7:=af gY.out 0
        have u9:=af gY.out 1
        have yD:=af gY.out 2
        have yE:=af gY.out 3
        have yF:=af gY.out 4
        have Ou: 0≤(pT:Int):=of_decide_eq_true bp
        have Ov:pT < (dO.length:Int):=of_decide_eq_true bp
        obtain ⟨aga,adv,vr⟩:=Kd.cY tM.out pT Ou Ov
        cases adv
        replace vr:=(HB.out.cell (World.block_lt_of_cell? w _ vr)).trans vr
        replace Ou:=eq_true Ou
        replace Ov:=eq_true Ov
        go_wp2
        repeat (go_quiet (fail);try go_wp2)
        go_roundg k2
        case measure=>have:=Lp.out;have:=uI.out;omega
        case rel=>exact ⟨(wrap64 (pT + 1)),b9,H',⟨Jg⟩,⟨wk⟩,⟨Ao⟩,⟨wq⟩⟩
       ·rw [if_neg c24] at H
        have RJ:=beq_eq_false_iff_ne.mpr c24
        have abX:=bne_iff_ne.mpr c24
        obtain rfl:=Option.some.inj H
        have agb:=o7.out
        have agc:=o8.out
        have Ee:wr.cell? ⟨iQ,0,none⟩=some (.bool bS):=(ah fM.out 0).trans rfl
        have Ef:wr.cell? ⟨iQ,1,none⟩=some (.slice fC cC.length fD):=(ah fM.out 1).trans rfl
        have Kl:wr.cell? ⟨iQ,2,none⟩=some (.string cg):=(ah fM.out 2).trans rfl
        have RL:wr.cell? ⟨iQ,3,none⟩=some (.string cN):=(ah fM.out 3).trans rfl
        have RM:wr.cell? ⟨iQ,4,none⟩=some (.bool cR):=(ah fM.out 4).trans rfl
        have Eg:=af fM.out 0
        have Eh:=af fM.out 1
        have Km:=af fM.out 2
        have RN:=af fM.out 3
        have RO:=af fM.out 4
        have Oq: 0≤(pT:Int):=of_decide_eq_true bp
        have Ot:pT < (cC.length:Int):=of_decide_eq_true bp
        obtain ⟨af9,adu,vq⟩:=Kd.cY mI.out pT Oq Ot
        cases adu
        replace vq:=(HB.out.cell (World.block_lt_of_cell? w _ vq)).trans vq
        replace Oq:=eq_true Oq
        replace Ot:=eq_true Ot
        have alq:wr.cell? ⟨jA,0,none⟩=some (.bool eN):=(ah gY.out 0).trans rfl
        have alr:wr.cell? ⟨jA,1,none⟩=some (.slice iW dO.length iX):=(ah gY.out 1).trans rfl
        have als:wr.cell? ⟨jA,2,none⟩=some (.string eo):=(ah gY.out 2).trans rfl
        have alu:wr.cell? ⟨jA,3,none⟩=some (.string eF):=(ah gY.out 3).trans rfl
        have alv:wr.cell? ⟨jA,4,none⟩=some (.bool eI):=(ah gY.out 4).trans rfl
        have alx:=af gY.out 0
        have aly:=af gY.out 1
        have alz:=af gY.out 2
        have alA:=af gY.out 3
        have alB:=af gY.out 4
        have Ou: 0≤(pT:Int):=of_decide_eq_true bp
        have Ov:pT < (dO.length:Int):=of_decide_eq_true bp
        obtain ⟨aga,adv,vr⟩:=Kd.cY tM.out pT Ou Ov
        cases adv
        replace vr:=(HB.out.cell (World.block_lt_of_cell? w _ vr)).trans vr
        replace Ou:=eq_true Ou
        replace Ov:=eq_true Ov
        go_wp2
        repeat (go_quiet (fail);try go_wp2)
        go_ret
        exact ⟨cH,wq⟩
      ·rw [if_neg c20] at H
       have Fz:=decide_eq_false c20
       clear c20
       obtain rfl:=Option.some.inj H
       go_wp2
       repeat (go_quiet (fail);try go_wp2)
       go_ret
       exact ⟨cH,wq⟩
def cT.f (k:Nat) (a0:ByteArray) (eN:Bool) (dO:List ByteArray) (eo:ByteArray) (eF:ByteArray) (eI:Bool):Option (Bool):=if a0.size + 2≤9223372036854775807 then ((bZ.f k (a0 ++ (⟨#[32,122]⟩:ByteArray))).bind fun sV=>(if sV.2.2.2.2.2.2=0 then (if sV.2.2.2.2.2.1=(a0.size:Int) then ((br.f k eN dO eo eF eI sV.1 sV.2.1 sV.2.2.1 sV.2.2.2.1 sV.2.2.2.2.1).bind fun t237=>(some t237)) else (none)) else (none))) else (none)
theorem cT.mono:∀ a0 a1 a2 a3 a4 a5 k,bL (cT.f k a0 a1 a2 a3 a4 a5) (cT.f (k + 1) a0 a1 a2 a3 a4 a5):=by
 intro a0 a1 a2 a3 a4 a5 k
 unfold cT.f
 repeat' first
  |(with_reducible first|exact br.mono _ _ _ _ _ _ _ _ _ _ _|exact bZ.mono _ _|exact bL.refl _|exact bL.none _|refine bL.ite ?_ ?_|refine bL.bind ?_ (fun _ =>?_))
  |exact br.mono _ _ _ _ _ _ _ _ _ _ _
  |exact bZ.mono _ _
  |exact bL.none _
  |refine bL.ite ?_ ?_
  |refine bL.bind ?_ (fun _ =>?_)
theorem cT.calls (k:Nat) (a0:ByteArray) (eN:Bool) (iW:Option Addr) (iX:Nat) (dO:List ByteArray) (eo:ByteArray) (eF:ByteArray) (eI:Bool) (r:Bool) (w:World) (wU:Kd.C Kd.string w iW dO.length dO) (wV:dO.length≤iX) (hG:aJ w) (h:cT.f k a0 eN dO eo eF eI=some r):
 Calls Tryz.prog 62 #[.string a0,.agg #[.bool eN,.slice iW dO.length iX,.string eo,.string eF,.bool eI]] w fun e w'=>e= .returned (.bool r)∧Below w.heap.size w w':=by
 have DA:=Tryz.underlying32
 have tM:=aa.mk wU
 have CY:=aa.mk wV
 clear wU wV
 have HB:=aa.mk (Below.refl w.heap.size w)
 have HG:=aa.mk hG
 clear hG
 have H:(if a0.size + 2≤9223372036854775807 then ((bZ.f k (a0 ++ (⟨#[32,122]⟩:ByteArray))).bind fun sV=>(if sV.2.2.2.2.2.2=0 then (if sV.2.2.2.2.2.1=(a0.size:Int) then ((br.f k eN dO eo eF eI sV.1 sV.2.1 sV.2.2.1 sV.2.2.2.1 sV.2.2.2.2.1).bind fun t237=>(some t237)) else (none)) else (none))) else (none))=some r:=h
 clear h
 obtain ⟨c3,H⟩:=iA H
 have mg:=eq_true c3
 have E7:=decide_eq_true c3
 try have api:(9223372036854775807 < a0.size + 2)=False:=eq_false (Nat.not_lt.2 c3)
 obtain ⟨⟨t227,t228,t231,t232,t233,t234,t235⟩,A4,H⟩:=bd_ H
 (try dsimp only at H)
 obtain ⟨c5,H⟩:=iA H
 have lF:=beq_iff_eq.mpr c5
 have Cf:=bne_eq_false_iff_eq.mpr c5
 clear c5
 obtain ⟨c6,H⟩:=iA H
 have nL:=beq_iff_eq.mpr c6
 have wK:=bne_eq_false_iff_eq.mpr c6
 clear c6
 obtain ⟨t237,A7,H⟩:=bd_ H
 obtain rfl:=Option.some.inj H
 go_enter Tryz.func62,Tryz.ntmps62
 go_wp2_with (first|((with_reducible refine cB (N:=3) rfl ?_);(try (refine cL (by rfl) ?_;dsimp only));refine cj ?hg (N:=3) ?hd (cs:=#[.bool eN,.slice iW dO.length iX,.string eo,.string eF,.bool eI]) (t:=32) ?hr ?_;(case hd=>rfl);(case hg=>rfl);(case hr=>first|(go_simp;done)|(go_simp;rfl));intro zi hg w8 cE hb;have sI:=aa.mk (cE);have aso:=aa.mk ((dI:w.heap.size≤zi));have U1:=aa.mk ((dI:w.heap.size≤zi));replace HB:=aa.mk (aA bG hb);clear hb cE hg)|((with_reducible refine aK (f:=17) rfl ?_);refine bU (some 11) rfl rfl Tryz.func17 aq rfl #[.string (a0 ++ (⟨#[32,122]⟩:ByteArray))] rfl cz ?_;(with_reducible refine (bZ.calls k (a0 ++ (⟨#[32,122]⟩:ByteArray)) t227 t228 t231 t232 t233 t234 t235 _ ?aT A4.out).mono ?_);(case aT=>exact aJ.below HG.out IL);rintro e w9 ⟨v229,rfl,ho0,hb⟩;refine ⟨_,rfl,?_⟩;have Hh:=aa.mk (Kd.kD ho0 (dm IL));replace sI:=aa.mk (aC DT hb);replace HB:=aa.mk (aA IL hb);(try clear hb);(try clear ho0))|((with_reducible refine cB (N:=5) rfl ?_);(try (refine cL (by rfl) ?_;dsimp only));refine cj ?hg (N:=5) ?hd (cs:=#[.bool false,.slice none 0 0,.string (⟨#[]⟩:ByteArray),.string (⟨#[]⟩:ByteArray),.bool false]) (t:=32) ?hr ?_;(case hd=>rfl);(case hg=>rfl);(case hr=>first|(go_simp;done)|(go_simp;rfl));intro sG hg um cE hb;replace Hh:=aa.mk (Kd.ck (by (with_reducible repeat (first|apply Kd.dQ|apply Kd.dR|apply Kd.dV));exact Hh.out) hb);have uw:=aa.mk (cE);have asp:=aa.mk ((Qm:w.heap.size≤sG));have afr:=aa.mk ((Qm:w.heap.size≤sG));replace HB:=aa.mk (aA IL hb);have sj:=aa.mk ((by rw [hg];exact Nat.ne_of_lt (iM DT):zi≠sG));have TD:=aa.mk ((by rw [hg];exact Nat.ne_of_gt (iM DT):sG≠zi));replace sI:=aa.mk (aC DT hb);clear hb cE hg;have abV:=TD.out;have abW:=sj.out;have yu:um.cell? ⟨sG,0,none⟩=some (.bool false):=(ah uw.out 0).trans rfl;have yw:um.cell? ⟨sG,1,none⟩=some (.slice none 0 0):=(ah uw.out 1).trans rfl;have Ei:um.cell? ⟨sG,2,none⟩=some (.string (⟨#[]⟩:ByteArray)):=(ah uw.out 2).trans rfl;have RF:um.cell? ⟨sG,3,none⟩=some (.string (⟨#[]⟩:ByteArray)):=(ah uw.out 3).trans rfl;have RG:um.cell? ⟨sG,4,none⟩=some (.bool false):=(ah uw.out 4).trans rfl;have yx:=af uw.out 0;have yz:=af uw.out 1;have Ej:=af uw.out 2;have RH:=af uw.out 3;have RI:=af uw.out 4;obtain ⟨U5,Ti,apj⟩:=Kd.gQ Hh.out;subst apj;have AP:um.cell? ⟨zi,0,none⟩=some (.bool eN):=(ah sI.out 0).trans rfl;have AQ:um.cell? ⟨zi,1,none⟩=some (.slice iW dO.length iX):=(ah sI.out 1).trans rfl;have Eo:um.cell? ⟨zi,2,none⟩=some (.string eo):=(ah sI.out 2).trans rfl;have Kn:um.cell? ⟨zi,3,none⟩=some (.string eF):=(ah sI.out 3).trans rfl;have Ko:um.cell? ⟨zi,4,none⟩=some (.bool eI):=(ah sI.out 4).trans rfl;have AR:=af sI.out 0;have AU:=af sI.out 1;have Ep:=af sI.out 2;have Kp:=af sI.out 3;have Kq:=af sI.out 4)|(go_at_call 18;(with_reducible refine (br.calls k eN _ _ dO eo eF eI t227 _ _ t228 t231 t232 t233 t237 _ ?aT ?cw ?fO ?sW A7.out).mono ?_);(case aT=>exact Kd.jK tM.out IQ);(case cw=>exact CY.out);(case fO=>refine (Kd.cP (e:=9) (base:=w.heap.size) (ok:=fun k_ =>True) (n:=t228.length) (c:=Ti) ?_).2.2;exact PY);(case sW=>exact (Kd.cP Hh.out).2.1);rintro e QX ⟨rfl,hb⟩;replace Hh:=aa.mk (Kd.ck PY hb);replace sI:=aa.mk (aC (g:=zi) (o:= .cells #[.bool eN,.slice iW dO.length iX,.string eo,.string eF,.bool eI] 32 (0,0)) (by (with_reducible repeat (first|refine ay ?_ _|refine az ?_|refine av ?_ _));refine cQ ?_ sj.out _;(with_reducible repeat (first|refine ay ?_ _|refine az ?_|refine av ?_ _));refine cQ ?_ sj.out _;(with_reducible repeat (first|refine ay ?_ _|refine az ?_|refine av ?_ _));refine cQ ?_ sj.out _;(with_reducible repeat (first|refine ay ?_ _|refine az ?_|refine av ?_ _));refine cQ ?_ sj.out _;(with_reducible repeat (first|refine ay ?_ _|refine az ?_|refine av ?_ _));refine cQ ?_ sj.out _;(with_reducible repeat (first|refine ay ?_ _|refine az ?_|refine av ?_ _));exact sI.out) hb);replace uw:=aa.mk (aC (g:=sG) (o:= .cells #[.bool t227,.slice U5 t228.length Ti,.string t231,.string t232,.bool t233] 32 (0,0)) (by (with_reducible repeat (first|refine ay ?_ _|refine az ?_|refine av ?_ _));refine bR (cs:=#[.bool t227,.slice U5 t228.length Ti,.string t231,.string t232,.bool false]) ?_ 4 _ rfl;(with_reducible repeat (first|refine ay ?_ _|refine az ?_|refine av ?_ _));refine bR (cs:=#[.bool t227,.slice U5 t228.length Ti,.string t231,.string (⟨#[]⟩:ByteArray),.bool false]) ?_ 3 _ rfl;(with_reducible repeat (first|refine ay ?_ _|refine az ?_|refine av ?_ _));refine bR (cs:=#[.bool t227,.slice U5 t228.length Ti,.string (⟨#[]⟩:ByteArray),.string (⟨#[]⟩:ByteArray),.bool false]) ?_ 2 _ rfl;(with_reducible repeat (first|refine ay ?_ _|refine az ?_|refine av ?_ _));refine bR (cs:=#[.bool t227,.slice none 0 0,.string (⟨#[]⟩:ByteArray),.string (⟨#[]⟩:ByteArray),.bool false]) ?_ 1 _ rfl;(with_reducible repeat (first|refine ay ?_ _|refine az ?_|refine av ?_ _));refine bR (cs:=#[.bool false,.slice none 0 0,.string (⟨#[]⟩:ByteArray),.string (⟨#[]⟩:ByteArray),.bool false]) ?_ 0 _ rfl;(with_reducible repeat (first|refine ay ?_ _|refine az ?_|refine av ?_ _));exact uw.out) hb);replace HB:=aa.mk (aA IQ hb);(try clear hb);(try clear hk)))
 go_ret
 exact ⟨cH,IQ⟩
end Go.Proofs.YtokpnfljjjjikaaGreatDoor.mY
