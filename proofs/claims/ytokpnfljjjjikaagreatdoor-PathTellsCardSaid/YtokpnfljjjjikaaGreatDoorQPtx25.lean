import Derived.Test.YtokpnfljjjjikaaGreatDoorQPtx1
import Derived.Test.YtokpnfljjjjikaaGreatDoorQPtx21
import Derived.Test.YtokpnfljjjjikaaGreatDoorQPtx23
set_option maxHeartbeats 8000000
set_option maxRecDepth 100000
namespace Go.Proofs.YtokpnfljjjjikaaGreatDoor.mY
open Go.RowKit Go.Proofs.YtokpnfljjjjikaaGreatDoor.qP Go.Proofs.aj.bO Go.Proofs.aj.fA Go.Proofs.aj.cK
attribute [local go_sem] ia ig iU iV gf gh ij iq
set_option linter.unusedVariables false
set_option linter.unusedSimpArgs false
attribute [local go_sem high] QW
mutual
def bK.j0:Nat→Bool→Bool→List ByteArray→ByteArray→ByteArray→Bool→Bool→List ByteArray→ByteArray→ByteArray→Bool→Option (Bool)
 | 0,_,_,_,_,_,_,_,_,_,_,_ =>none
 |k + 1,x26,KP,Bp,KQ,KR,KS,KU,Bq,KV,KW,KX=>if x26=true then (some false) else (bK.l0 k 0 KP Bp KQ KR KS KU Bq KV KW KX)
def bK.l0:Nat→Int→Bool→List ByteArray→ByteArray→ByteArray→Bool→Bool→List ByteArray→ByteArray→ByteArray→Bool→Option (Bool)
 | 0,_,_,_,_,_,_,_,_,_,_,_ =>none
 |k + 1,x5,KP,Bp,KQ,KR,KS,KU,Bq,KV,KW,KX=>if x5 < (Bp.length:Int) then (if 0≤x5 then (if x5 < (Bq.length:Int) then (if (cV ByteArray.empty Bp x5).toList=(cV ByteArray.empty Bq x5).toList then (bK.l0 k (wrap64 (x5 + 1)) KP Bp KQ KR KS KU Bq KV KW KX) else (some false)) else (none)) else (none)) else (some true)
end
def bK.f (k:Nat) (bS:Bool) (cC:List ByteArray) (cg:ByteArray) (cN:ByteArray) (cR:Bool) (eN:Bool) (dO:List ByteArray) (eo:ByteArray) (eF:ByteArray) (eI:Bool):Option (Bool):=if (bS != eN)=true then (bK.j0 k true bS cC cg cN cR eN dO eo eF eI) else (if (!(cg.toList == eo.toList) || (!(cN.toList == eF.toList) || (!(cR == eI))))=true then (bK.j0 k true bS cC cg cN cR eN dO eo eF eI) else (bK.j0 k ((cC.length:Int) != (dO.length:Int)) bS cC cg cN cR eN dO eo eF eI))
theorem bK.dF:∀ k,(∀ y0 y1 y2 y3 y4 y5 y6 y7 y8 y9 Fy,bL (bK.j0 k y0 y1 y2 y3 y4 y5 y6 y7 y8 y9 Fy) (bK.j0 (k + 1) y0 y1 y2 y3 y4 y5 y6 y7 y8 y9 Fy))∧(∀ y0 y1 y2 y3 y4 y5 y6 y7 y8 y9 Fy,bL (bK.l0 k y0 y1 y2 y3 y4 y5 y6 y7 y8 y9 Fy) (bK.l0 (k + 1) y0 y1 y2 y3 y4 y5 y6 y7 y8 y9 Fy))
 | 0=>⟨fun _ _ _ _ _ _ _ _ _ _ _ r h=>by simp [bK.j0] at h,fun _ _ _ _ _ _ _ _ _ _ _ r h=>by simp [bK.l0] at h⟩
 |k + 1=>by
  obtain ⟨fV,ih1⟩:=bK.dF k
  refine ⟨?_,?_⟩
  ·intro y0 y1 y2 y3 y4 y5 y6 y7 y8 y9 Fy
   unfold bK.j0
   repeat' first
   |(with_reducible first|exact fV _ _ _ _ _ _ _ _ _ _ _|exact ih1 _ _ _ _ _ _ _ _ _ _ _|exact bL.refl _|exact bL.none _|refine bL.ite ?_ ?_|refine bL.bind ?_ (fun _ =>?_))
   |exact fV _ _ _ _ _ _ _ _ _ _ _
   |exact ih1 _ _ _ _ _ _ _ _ _ _ _
   |exact bL.none _
   |refine bL.ite ?_ ?_
   |refine bL.bind ?_ (fun _ =>?_)
  ·intro y0 y1 y2 y3 y4 y5 y6 y7 y8 y9 Fy
   unfold bK.l0
   repeat' first
   |(with_reducible first|exact fV _ _ _ _ _ _ _ _ _ _ _|exact ih1 _ _ _ _ _ _ _ _ _ _ _|exact bL.refl _|exact bL.none _|refine bL.ite ?_ ?_|refine bL.bind ?_ (fun _ =>?_))
   |exact fV _ _ _ _ _ _ _ _ _ _ _
   |exact ih1 _ _ _ _ _ _ _ _ _ _ _
   |exact bL.none _
   |refine bL.ite ?_ ?_
   |refine bL.bind ?_ (fun _ =>?_)
theorem bK.mono:∀ a0 a1 a2 a3 a4 a5 a6 a7 a8 a9 k,bL (bK.f k a0 a1 a2 a3 a4 a5 a6 a7 a8 a9) (bK.f (k + 1) a0 a1 a2 a3 a4 a5 a6 a7 a8 a9):=by
 intro a0 a1 a2 a3 a4 a5 a6 a7 a8 a9 k
 obtain ⟨fV,ih1⟩:=bK.dF k
 unfold bK.f
 repeat' first
  |(with_reducible first|exact fV _ _ _ _ _ _ _ _ _ _ _|exact ih1 _ _ _ _ _ _ _ _ _ _ _|exact bL.refl _|exact bL.none _|refine bL.ite ?_ ?_|refine bL.bind ?_ (fun _ =>?_))
  |exact fV _ _ _ _ _ _ _ _ _ _ _
  |exact ih1 _ _ _ _ _ _ _ _ _ _ _
  |exact bL.none _
  |refine bL.ite ?_ ?_
  |refine bL.bind ?_ (fun _ =>?_)
theorem bK.calls (k:Nat) (bS:Bool) (fC:Option Addr) (fD:Nat) (cC:List ByteArray) (cg:ByteArray) (cN:ByteArray) (cR:Bool) (eN:Bool) (iW:Option Addr) (iX:Nat) (dO:List ByteArray) (eo:ByteArray) (eF:ByteArray) (eI:Bool) (r:Bool) (w:World) (oX:Kd.C Kd.string w fC cC.length cC) (oY:cC.length≤fD) (wU:Kd.C Kd.string w iW dO.length dO) (wV:dO.length≤iX) (h:bK.f k bS cC cg cN cR eN dO eo eF eI=some r):
 Calls Tryz.prog 87 #[.agg #[.bool bS,.slice fC cC.length fD,.string cg,.string cN,.bool cR],.agg #[.bool eN,.slice iW dO.length iX,.string eo,.string eF,.bool eI]] w fun e w'=>e= .returned (.bool r)∧Below w.heap.size w w':=by
 have DA:=Tryz.underlying32
 have wT:=Tryz.underlying30
 have mI:=aa.mk oX
 have oZ:=aa.mk oY
 clear oX oY
 have tM:=aa.mk wU
 have CY:=aa.mk wV
 clear wU wV
 have HB:=aa.mk (Below.refl w.heap.size w)
 have H:(if (bS != eN)=true then (bK.j0 k true bS cC cg cN cR eN dO eo eF eI) else (if (!(cg.toList == eo.toList) || (!(cN.toList == eF.toList) || (!(cR == eI))))=true then (bK.j0 k true bS cC cg cN cR eN dO eo eF eI) else (bK.j0 k ((cC.length:Int) != (dO.length:Int)) bS cC cg cN cR eN dO eo eF eI)))=some r:=h
 clear h
 have Fk:=aa.mk H
 clear H
 go_enter Tryz.func87,Tryz.ntmps87
 go_upto_region 1 with (first|((with_reducible refine cB (N:=2) rfl ?_);(try (refine cL (by rfl) ?_;dsimp only));refine cj ?hg (N:=2) ?hd (cs:=#[.bool bS,.slice fC cC.length fD,.string cg,.string cN,.bool cR]) (t:=32) ?hr ?_;(case hd=>rfl);(case hg=>rfl);(case hr=>first|(go_simp;done)|(go_simp;rfl));intro iR hg w4 cE hb;have fN:=aa.mk (cE);have acU:=aa.mk ((dI:w.heap.size≤iR));have Ll:=aa.mk ((dI:w.heap.size≤iR));replace HB:=aa.mk (aA bG hb);clear hb cE hg)|((with_reducible refine cB (N:=3) rfl ?_);(try (refine cL (by rfl) ?_;dsimp only));refine cj ?hg (N:=3) ?hd (cs:=#[.bool eN,.slice iW dO.length iX,.string eo,.string eF,.bool eI]) (t:=32) ?hr ?_;(case hd=>rfl);(case hg=>rfl);(case hr=>first|(go_simp;done)|(go_simp;rfl));intro jC hg w5 cE hb;have gZ:=aa.mk (cE);have acV:=aa.mk ((BU:w.heap.size≤jC));have UU:=aa.mk ((BU:w.heap.size≤jC));replace HB:=aa.mk (aA Ny hb);have pg:=aa.mk ((IZ:iR≠jC));have pz:=aa.mk ((I0:jC≠iR));replace fN:=aa.mk (aC wm hb);clear hb cE hg))
 repeat (go_quiet (first|((with_reducible refine cB (N:=2) rfl ?_);(try (refine cL (by rfl) ?_;dsimp only));refine cj ?hg (N:=2) ?hd (cs:=#[.bool bS,.slice fC cC.length fD,.string cg,.string cN,.bool cR]) (t:=32) ?hr ?_;(case hd=>rfl);(case hg=>rfl);(case hr=>first|(go_simp;done)|(go_simp;rfl));intro iR hg w4 cE hb;have fN:=aa.mk (cE);have acU:=aa.mk ((dI:w.heap.size≤iR));have Ll:=aa.mk ((dI:w.heap.size≤iR));replace HB:=aa.mk (aA bG hb);clear hb cE hg)|((with_reducible refine cB (N:=3) rfl ?_);(try (refine cL (by rfl) ?_;dsimp only));refine cj ?hg (N:=3) ?hd (cs:=#[.bool eN,.slice iW dO.length iX,.string eo,.string eF,.bool eI]) (t:=32) ?hr ?_;(case hd=>rfl);(case hg=>rfl);(case hr=>first|(go_simp;done)|(go_simp;rfl));intro jC hg w5 cE hb;have gZ:=aa.mk (cE);have acV:=aa.mk ((BU:w.heap.size≤jC));have UU:=aa.mk ((BU:w.heap.size≤jC));replace HB:=aa.mk (aA Ny hb);have pg:=aa.mk ((IZ:iR≠jC));have pz:=aa.mk ((I0:jC≠iR));replace fN:=aa.mk (aC wm hb);clear hb cE hg));go_upto_region 1 with (first|((with_reducible refine cB (N:=2) rfl ?_);(try (refine cL (by rfl) ?_;dsimp only));refine cj ?hg (N:=2) ?hd (cs:=#[.bool bS,.slice fC cC.length fD,.string cg,.string cN,.bool cR]) (t:=32) ?hr ?_;(case hd=>rfl);(case hg=>rfl);(case hr=>first|(go_simp;done)|(go_simp;rfl));intro iR hg w4 cE hb;have fN:=aa.mk (cE);have acU:=aa.mk ((dI:w.heap.size≤iR));have Ll:=aa.mk ((dI:w.heap.size≤iR));replace HB:=aa.mk (aA bG hb);clear hb cE hg)|((with_reducible refine cB (N:=3) rfl ?_);(try (refine cL (by rfl) ?_;dsimp only));refine cj ?hg (N:=3) ?hd (cs:=#[.bool eN,.slice iW dO.length iX,.string eo,.string eF,.bool eI]) (t:=32) ?hr ?_;(case hd=>rfl);(case hg=>rfl);(case hr=>first|(go_simp;done)|(go_simp;rfl));intro jC hg w5 cE hb;have gZ:=aa.mk (cE);have acV:=aa.mk ((BU:w.heap.size≤jC));have UU:=aa.mk ((BU:w.heap.size≤jC));replace HB:=aa.mk (aA Ny hb);have pg:=aa.mk ((IZ:iR≠jC));have pz:=aa.mk ((I0:jC≠iR));replace fN:=aa.mk (aC wm hb);clear hb cE hg)))
 (try simp only [Act.put,List.setIfInBounds_toArray,List.set_cons_zero,List.set_cons_succ])
 go_cut [26] (fun v26 wc=>∃ (kq:Nat) (Bg:Bool),v26= .bool Bg∧aa (bK.j0 kq Bg bS cC cg cN cR eN dO eo eF eI=some r)∧aa (kq≤k)∧aa (wc.heap[iR]? =some (.cells #[.bool bS,(.slice fC cC.length fD),.string cg,.string cN,.bool cR] 32 (0,0)))∧aa (wc.heap[jC]? =some (.cells #[.bool eN,(.slice iW dO.length iX),.string eo,.string eF,.bool eI] 32 (0,0)))∧aa (Below w.heap.size w wc))
 case first=>
  have H:=Fk.out
  clear Fk
  by_cases c6:(bS != eN)=true
  ·rw [if_pos c6] at H
   have nL:(bS != eN)=true:=c6
   (try (have wK:decide (bS=eN)=false:=by simpa using c6))
   (try (have V6:(bS == eN)=false:=by simpa using c6))
   (try (have ZA: ¬ (bS=eN):=by simpa using c6))
   clear c6
   (first|rw [nL]|(simp only [cU,dh];rw [nL])|skip)
   have H':=aa.mk H
   clear H
   have apg:=pg.out
   have aph:=pz.out
   have zy:w5.cell? ⟨iR,0,none⟩=some (.bool bS):=(ah fN.out 0).trans rfl
   have zz:w5.cell? ⟨iR,1,none⟩=some (.slice fC cC.length fD):=(ah fN.out 1).trans rfl
   have Fq:w5.cell? ⟨iR,2,none⟩=some (.string cg):=(ah fN.out 2).trans rfl
   have Oj:w5.cell? ⟨iR,3,none⟩=some (.string cN):=(ah fN.out 3).trans rfl
   have Ol:w5.cell? ⟨iR,4,none⟩=some (.bool cR):=(ah fN.out 4).trans rfl
   have zA:=af fN.out 0
   have zB:=af fN.out 1
   have Fu:=af fN.out 2
   have Om:=af fN.out 3
   have Oo:=af fN.out 4
   have rG:w5.cell? ⟨jC,0,none⟩=some (.bool eN):=(ah gZ.out 0).trans rfl
   have rH:w5.cell? ⟨jC,1,none⟩=some (.slice iW dO.length iX):=(ah gZ.out 1).trans rfl
   have zD:w5.cell? ⟨jC,2,none⟩=some (.string eo):=(ah gZ.out 2).trans rfl
   have J3:w5.cell? ⟨jC,3,none⟩=some (.string eF):=(ah gZ.out 3).trans rfl
   have J4:w5.cell? ⟨jC,4,none⟩=some (.bool eI):=(ah gZ.out 4).trans rfl
   have rI:=af gZ.out 0
   have rJ:=af gZ.out 1
   have zE:=af gZ.out 2
   have J5:=af gZ.out 3
   have J6:=af gZ.out 4
   go_wp2
   repeat (go_quiet (fail);try go_wp2)
   go_meet
   case rel=>exact ⟨_,(true),b9,H',⟨iT⟩,⟨wm⟩,⟨Ap⟩,⟨wu⟩⟩
  ·rw [if_neg c6] at H
   have nL:(bS != eN)=false:=by simpa using c6
   (try (have wK:decide (bS=eN)=true:=by simpa using c6))
   (try (have V6:(bS == eN)=true:=by simpa using c6))
   clear c6
   (first|rw [nL]|(simp only [cU,dh];rw [nL])|skip)
   by_cases c10:(!(cg.toList == eo.toList) || (!(cN.toList == eF.toList) || (!(cR == eI))))=true
   ·rw [if_pos c10] at H
    have pR:(!(cg.toList == eo.toList) || (!(cN.toList == eF.toList) || (!(cR == eI))))=true:=c10
    clear c10
    have H':=aa.mk H
    clear H
    have abV:=pg.out
    have abW:=pz.out
    have yu:w5.cell? ⟨iR,0,none⟩=some (.bool bS):=(ah fN.out 0).trans rfl
    have yw:w5.cell? ⟨iR,1,none⟩=some (.slice fC cC.length fD):=(ah fN.out 1).trans rfl
    have Ei:w5.cell? ⟨iR,2,none⟩=some (.string cg):=(ah fN.out 2).trans rfl
    have RF:w5.cell? ⟨iR,3,none⟩=some (.string cN):=(ah fN.out 3).trans rfl
    have RG:w5.cell? ⟨iR,4,none⟩=some (.bool cR):=(ah fN.out 4).trans rfl
    have yx:=af fN.out 0
    have yz:=af fN.out 1
    have Ej:=af fN.out 2
    have RH:=af fN.out 3
    have RI:=af fN.out 4
    have qD:w5.cell? ⟨jC,0,none⟩=some (.bool eN):=(ah gZ.out 0).trans rfl
    have qE:w5.cell? ⟨jC,1,none⟩=some (.slice iW dO.length iX):=(ah gZ.out 1).trans rfl
    have vo:w5.cell? ⟨jC,2,none⟩=some (.string eo):=(ah gZ.out 2).trans rfl
    have Ek:w5.cell? ⟨jC,3,none⟩=some (.string eF):=(ah gZ.out 3).trans rfl
    have El:w5.cell? ⟨jC,4,none⟩=some (.bool eI):=(ah gZ.out 4).trans rfl
    have qF:=af gZ.out 0
    have qG:=af gZ.out 1
    have vp:=af gZ.out 2
    have Em:=af gZ.out 3
    have En:=af gZ.out 4
    go_wp2
    repeat (go_quiet (fail);try go_wp2)
    go_meet
    case rel=>exact ⟨_,(true),b9,H',⟨iT⟩,⟨wm⟩,⟨Ap⟩,⟨wu⟩⟩
   ·rw [if_neg c10] at H
    have pR:(!(cg.toList == eo.toList) || (!(cN.toList == eF.toList) || (!(cR == eI))))=false:=by simpa using c10
    clear c10
    have H':=aa.mk H
    clear H
    have V2:=pg.out
    have V3:=pz.out
    have J7:w5.cell? ⟨iR,0,none⟩=some (.bool bS):=(ah fN.out 0).trans rfl
    have J8:w5.cell? ⟨iR,1,none⟩=some (.slice fC cC.length fD):=(ah fN.out 1).trans rfl
    have J9:w5.cell? ⟨iR,2,none⟩=some (.string cg):=(ah fN.out 2).trans rfl
    have ZB:w5.cell? ⟨iR,3,none⟩=some (.string cN):=(ah fN.out 3).trans rfl
    have ZC:w5.cell? ⟨iR,4,none⟩=some (.bool cR):=(ah fN.out 4).trans rfl
    have Ka:=af fN.out 0
    have Kb:=af fN.out 1
    have Ke:=af fN.out 2
    have ZE:=af fN.out 3
    have ZF:=af fN.out 4
    have AV:w5.cell? ⟨jC,0,none⟩=some (.bool eN):=(ah gZ.out 0).trans rfl
    have AW:w5.cell? ⟨jC,1,none⟩=some (.slice iW dO.length iX):=(ah gZ.out 1).trans rfl
    have JO:w5.cell? ⟨jC,2,none⟩=some (.string eo):=(ah gZ.out 2).trans rfl
    have JP:w5.cell? ⟨jC,3,none⟩=some (.string eF):=(ah gZ.out 3).trans rfl
    have JQ:w5.cell? ⟨jC,4,none⟩=some (.bool eI):=(ah gZ.out 4).trans rfl
    have AX:=af gZ.out 0
    have AY:=af gZ.out 1
    have JR:=af gZ.out 2
    have JS:=af gZ.out 3
    have JT:=af gZ.out 4
    go_wp2
    repeat (go_quiet (fail);try go_wp2)
    go_meet
    case rel=>exact ⟨_,(((cC.length:Int) != (dO.length:Int))),b9,H',⟨iT⟩,⟨wm⟩,⟨Ap⟩,⟨wu⟩⟩
 case rest=>
  clear Fk
  obtain ⟨kq,Bg,rfl,HA,Lp,fN,gZ,HB⟩:=hcut
  cases kq with
  |zero=>exact absurd HA.out (by simp [bK.j0])
  |succ Fl=>
   have H:=HA.out
   clear HA
   simp only [bK.j0] at H
   by_cases c17:Bg=true
   ·subst c17
    rw [if_pos rfl] at H
    obtain rfl:=Option.some.inj H
    go_wp2
    repeat (go_quiet (fail);try go_wp2)
    go_ret
    exact ⟨cH,wu⟩
   ·replace c17:=Bool.eq_false_iff.mpr c17
    subst c17
    rw [if_neg (show ¬ (false=true) by decide)] at H
    have H':=aa.mk H
    clear H
    go_wp2
    repeat (go_quiet (fail);try go_wp2)
    go_loopg [5] Fl (fun kq v5 w'=>∃ (fL:Int),v5= .int .i64 fL∧aa (bK.l0 kq fL bS cC cg cN cR eN dO eo eF eI=some r)∧aa (kq≤Fl)∧aa (w'.heap[iR]? =some (.cells #[.bool bS,(.slice fC cC.length fD),.string cg,.string cN,.bool cR] 32 (0,0)))∧aa (w'.heap[jC]? =some (.cells #[.bool eN,(.slice iW dO.length iX),.string eo,.string eF,.bool eI] 32 (0,0)))∧aa (Below w.heap.size w w'))
    case atStart=>exact ⟨(0),b9,H',⟨Nat.le_refl _⟩,⟨wm⟩,⟨Ap⟩,⟨wu⟩⟩
    case round=>
     clear H'
     obtain ⟨fL,rfl,HA,uI,fN,gZ,HB⟩:=hrel
     cases gk with
     |zero=>exact absurd HA.out (by simp [bK.l0])
     |succ k2=>
      have H:=HA.out
      clear HA
      simp only [bK.l0] at H
      by_cases c18:fL < (cC.length:Int)
      ·rw [if_pos c18] at H
       have xd:=decide_eq_true c18
       clear c18
       obtain ⟨c19,H⟩:=iA H
       have zj:=decide_eq_true c19
       clear c19
       obtain ⟨c20,H⟩:=iA H
       have Fz:=decide_eq_true c20
       clear c20
       by_cases c21:(cV ByteArray.empty cC fL).toList=(cV ByteArray.empty dO fL).toList
       ·rw [if_pos c21] at H
        have wW:=beq_iff_eq.mpr c21
        have Sg:=bne_eq_false_iff_eq.mpr c21
        clear c21
        have H':=aa.mk H
        clear H
        have at0:=pg.out
        have at1:=pz.out
        have Kr:wr.cell? ⟨iR,0,none⟩=some (.bool bS):=(ah fN.out 0).trans rfl
        have Ks:wr.cell? ⟨iR,1,none⟩=some (.slice fC cC.length fD):=(ah fN.out 1).trans rfl
        have Kt:wr.cell? ⟨iR,2,none⟩=some (.string cg):=(ah fN.out 2).trans rfl
        have Ku:wr.cell? ⟨iR,3,none⟩=some (.string cN):=(ah fN.out 3).trans rfl
        have Kv:wr.cell? ⟨iR,4,none⟩=some (.bool cR):=(ah fN.out 4).trans rfl
        have Kw:=af fN.out 0
        have Ky:=af fN.out 1
        have Kz:=af fN.out 2
        have KA:=af fN.out 3
        have KB:=af fN.out 4
        have O1: 0≤(fL:Int):=of_decide_eq_true bp
        have O2:fL < (cC.length:Int):=of_decide_eq_true bp
        obtain ⟨aiG,aex,vC⟩:=Kd.cY mI.out fL O1 O2
        cases aex
        replace vC:=(HB.out.cell (World.block_lt_of_cell? w _ vC)).trans vC
        replace O1:=eq_true O1
        replace O2:=eq_true O2
        have JD:wr.cell? ⟨jC,0,none⟩=some (.bool eN):=(ah gZ.out 0).trans rfl
        have JE:wr.cell? ⟨jC,1,none⟩=some (.slice iW dO.length iX):=(ah gZ.out 1).trans rfl
        have aaq:wr.cell? ⟨jC,2,none⟩=some (.string eo):=(ah gZ.out 2).trans rfl
        have anb:wr.cell? ⟨jC,3,none⟩=some (.string eF):=(ah gZ.out 3).trans rfl
        have anc:wr.cell? ⟨jC,4,none⟩=some (.bool eI):=(ah gZ.out 4).trans rfl
        have JF:=af gZ.out 0
        have JG:=af gZ.out 1
        have aar:=af gZ.out 2
        have ane:=af gZ.out 3
        have anf:=af gZ.out 4
        have O3: 0≤(fL:Int):=of_decide_eq_true bp
        have O4:fL < (dO.length:Int):=of_decide_eq_true bp
        obtain ⟨aiH,aey,vD⟩:=Kd.cY tM.out fL O3 O4
        cases aey
        replace vD:=(HB.out.cell (World.block_lt_of_cell? w _ vD)).trans vD
        replace O3:=eq_true O3
        replace O4:=eq_true O4
        go_wp2
        repeat (go_quiet (fail);try go_wp2)
        go_roundg k2
        case measure=>have:=Lp.out;have:=uI.out;omega
        case rel=>exact ⟨(wrap64 (fL + 1)),b9,H',⟨Jg⟩,⟨wm⟩,⟨Ap⟩,⟨wu⟩⟩
       ·rw [if_neg c21] at H
        have wW:=beq_eq_false_iff_ne.mpr c21
        have Sg:=bne_iff_ne.mpr c21
        obtain rfl:=Option.some.inj H
        have af7:=pg.out
        have af8:=pz.out
        have Kf:wr.cell? ⟨iR,0,none⟩=some (.bool bS):=(ah fN.out 0).trans rfl
        have Kg:wr.cell? ⟨iR,1,none⟩=some (.slice fC cC.length fD):=(ah fN.out 1).trans rfl
        have Kh:wr.cell? ⟨iR,2,none⟩=some (.string cg):=(ah fN.out 2).trans rfl
        have ZM:wr.cell? ⟨iR,3,none⟩=some (.string cN):=(ah fN.out 3).trans rfl
        have ZN:wr.cell? ⟨iR,4,none⟩=some (.bool cR):=(ah fN.out 4).trans rfl
        have Ki:=af fN.out 0
        have Kj:=af fN.out 1
        have Kk:=af fN.out 2
        have ZO:=af fN.out 3
        have ZP:=af fN.out 4
        have O1: 0≤(fL:Int):=of_decide_eq_true bp
        have O2:fL < (cC.length:Int):=of_decide_eq_true bp
        obtain ⟨aiG,aex,vC⟩:=Kd.cY mI.out fL O1 O2
        cases aex
        replace vC:=(HB.out.cell (World.block_lt_of_cell? w _ vC)).trans vC
        replace O1:=eq_true O1
        replace O2:=eq_true O2
        have uZ:wr.cell? ⟨jC,0,none⟩=some (.bool eN):=(ah gZ.out 0).trans rfl
        have u5:wr.cell? ⟨jC,1,none⟩=some (.slice iW dO.length iX):=(ah gZ.out 1).trans rfl
        have yA:wr.cell? ⟨jC,2,none⟩=some (.string eo):=(ah gZ.out 2).trans rfl
        have yB:wr.cell? ⟨jC,3,none⟩=some (.string eF):=(ah gZ.out 3).trans rfl
        have yC:wr.cell? ⟨jC,4,none⟩=some (.bool eI):=(ah gZ.out 4).trans rfl
        have u7:=af gZ.out 0
        have u9:=af gZ.out 1
        have yD:=af gZ.out 2
        have yE:=af gZ.out 3
        have yF:=af gZ.out 4
        have O3: 0≤(fL:Int):=of_decide_eq_true bp
        have O4:fL < (dO.length:Int):=of_decide_eq_true bp
        obtain ⟨aiH,aey,vD⟩:=Kd.cY tM.out fL O3 O4
        cases aey
        replace vD:=(HB.out.cell (World.block_lt_of_cell? w _ vD)).trans vD
        replace O3:=eq_true O3
        replace O4:=eq_true O4
        go_wp2
        repeat (go_quiet (fail);try go_wp2)
        go_ret
        exact ⟨cH,wu⟩
      ·rw [if_neg c18] at H
       have xd:=decide_eq_false c18
       clear c18
       obtain rfl:=Option.some.inj H
       have agb:=pg.out
       have agc:=pz.out
       have Ee:wr.cell? ⟨iR,0,none⟩=some (.bool bS):=(ah fN.out 0).trans rfl
       have Ef:wr.cell? ⟨iR,1,none⟩=some (.slice fC cC.length fD):=(ah fN.out 1).trans rfl
       have Kl:wr.cell? ⟨iR,2,none⟩=some (.string cg):=(ah fN.out 2).trans rfl
       have RL:wr.cell? ⟨iR,3,none⟩=some (.string cN):=(ah fN.out 3).trans rfl
       have RM:wr.cell? ⟨iR,4,none⟩=some (.bool cR):=(ah fN.out 4).trans rfl
       have Eg:=af fN.out 0
       have Eh:=af fN.out 1
       have Km:=af fN.out 2
       have RN:=af fN.out 3
       have RO:=af fN.out 4
       go_wp2
       repeat (go_quiet (fail);try go_wp2)
       go_ret
       exact ⟨cH,wu⟩
end Go.Proofs.YtokpnfljjjjikaaGreatDoor.mY
namespace Go.Proofs.YtokpnfljjjjikaaGreatDoor.mY
open Go.RowKit Go.Proofs.YtokpnfljjjjikaaGreatDoor.qP Go.Proofs.aj.bO Go.Proofs.aj.fA Go.Proofs.aj.cK
attribute [local go_sem] ia ig iU iV gf gh ij iq
set_option linter.unusedVariables false
set_option linter.unusedSimpArgs false
def bP.j0:Nat→Bool→Bool→List ByteArray→ByteArray→ByteArray→Bool→Option (Bool)
 | 0,_,_,_,_,_,_ =>none
 |k + 1,x17,SN,SP,SQ,SR,SS=>if x17=true then (some false) else ((bq.f k SN SP SQ SR SS).bind fun Cn=>((aG.f k Cn).bind fun FX=>(if FX.2.2.2.2.2.2=0 then (if FX.2.2.2.2.2.1=(Cn.size:Int) then ((bK.f k SN SP SQ SR SS FX.1 FX.2.1 FX.2.2.1 FX.2.2.2.1 FX.2.2.2.2.1).bind fun aez=>(some aez)) else (some false)) else (some false))))
def bP.f (k:Nat) (bS:Bool) (cC:List ByteArray) (cg:ByteArray) (cN:ByteArray) (cR:Bool):Option (Bool):=if (cC.length:Int) > 20 then (bP.j0 k true bS cC cg cN cR) else (bP.j0 k (decide ((cg.size:Int) > 64)) bS cC cg cN cR)
theorem bP.dF:∀ k,(∀ y0 y1 y2 y3 y4 y5,bL (bP.j0 k y0 y1 y2 y3 y4 y5) (bP.j0 (k + 1) y0 y1 y2 y3 y4 y5))
 | 0=>fun _ _ _ _ _ _ r h=>by simp [bP.j0] at h
 |k + 1=>by
  have fV:=bP.dF k
  ·intro y0 y1 y2 y3 y4 y5
   unfold bP.j0
   repeat' first
   |(with_reducible first|exact fV _ _ _ _ _ _|exact aG.mono _ _|exact bK.mono _ _ _ _ _ _ _ _ _ _ _|exact bq.mono _ _ _ _ _ _|exact bL.refl _|exact bL.none _|refine bL.ite ?_ ?_|refine bL.bind ?_ (fun _ =>?_))
   |exact fV _ _ _ _ _ _
   |exact aG.mono _ _
   |exact bK.mono _ _ _ _ _ _ _ _ _ _ _
   |exact bq.mono _ _ _ _ _ _
   |exact bL.none _
   |refine bL.ite ?_ ?_
   |refine bL.bind ?_ (fun _ =>?_)
theorem bP.mono:∀ a0 a1 a2 a3 a4 k,bL (bP.f k a0 a1 a2 a3 a4) (bP.f (k + 1) a0 a1 a2 a3 a4):=by
 intro a0 a1 a2 a3 a4 k
 have fV:=bP.dF k
 unfold bP.f
 repeat' first
  |(with_reducible first|exact fV _ _ _ _ _ _|exact aG.mono _ _|exact bK.mono _ _ _ _ _ _ _ _ _ _ _|exact bq.mono _ _ _ _ _ _|exact bL.refl _|exact bL.none _|refine bL.ite ?_ ?_|refine bL.bind ?_ (fun _ =>?_))
  |exact fV _ _ _ _ _ _
  |exact aG.mono _ _
  |exact bK.mono _ _ _ _ _ _ _ _ _ _ _
  |exact bq.mono _ _ _ _ _ _
  |exact bL.none _
  |refine bL.ite ?_ ?_
  |refine bL.bind ?_ (fun _ =>?_)
theorem bP.calls (k:Nat) (bS:Bool) (fC:Option Addr) (fD:Nat) (cC:List ByteArray) (cg:ByteArray) (cN:ByteArray) (cR:Bool) (r:Bool) (w:World) (oX:Kd.C Kd.string w fC cC.length cC) (oY:cC.length≤fD) (hG:aJ w) (h:bP.f k bS cC cg cN cR=some r):
 Calls Tryz.prog 30 #[.agg #[.bool bS,.slice fC cC.length fD,.string cg,.string cN,.bool cR]] w fun e w'=>e= .returned (.bool r)∧Below w.heap.size w w':=by
 have DA:=Tryz.underlying32
 have mI:=aa.mk oX
 have oZ:=aa.mk oY
 clear oX oY
 have HB:=aa.mk (Below.refl w.heap.size w)
 have HG:=aa.mk hG
 clear hG
 have H:(if (cC.length:Int) > 20 then (bP.j0 k true bS cC cg cN cR) else (bP.j0 k (decide ((cg.size:Int) > 64)) bS cC cg cN cR))=some r:=h
 clear h
 have LI:=aa.mk H
 clear H
 go_enter Tryz.func30,Tryz.ntmps30
 go_upto_region 1 with (first|((with_reducible refine cB (N:=1) rfl ?_);(try (refine cL (by rfl) ?_;dsimp only));refine cj ?hg (N:=1) ?hd (cs:=#[.bool bS,.slice fC cC.length fD,.string cg,.string cN,.bool cR]) (t:=32) ?hr ?_;(case hd=>rfl);(case hg=>rfl);(case hr=>first|(go_simp;done)|(go_simp;rfl));intro jH hg w3 cE hb;have fu:=aa.mk (cE);have at2:=aa.mk ((dI:w.heap.size≤jH));have UR:=aa.mk ((dI:w.heap.size≤jH));replace HB:=aa.mk (aA bG hb);clear hb cE hg))
 (try simp only [Act.put,List.setIfInBounds_toArray,List.set_cons_zero,List.set_cons_succ])
 go_cut [17] (fun v17 wc=>∃ (kq:Nat) (Bj:Bool),v17= .bool Bj∧aa (bP.j0 kq Bj bS cC cg cN cR=some r)∧aa (kq≤k)∧aa (wc.heap[jH]? =some (.cells #[.bool bS,(.slice fC cC.length fD),.string cg,.string cN,.bool cR] 32 (0,0)))∧aa (Below w.heap.size w wc))
 case first=>
  have H:=LI.out
  clear LI
  by_cases c4:(cC.length:Int) > 20
  ·rw [if_pos c4] at H
   have nB:decide (20 < (cC.length:Int))=true:=decide_eq_true c4
   have LJ:decide (20 < cC.length)=true:=decide_eq_true ak
   clear c4
   (first|rw [nB]|(simp only [cU,dh];rw [nB])|skip)
   have H':=aa.mk H
   clear H
   have Ch:w3.cell? ⟨jH,0,none⟩=some (.bool bS):=(ah fu.out 0).trans rfl
   have Ci:w3.cell? ⟨jH,1,none⟩=some (.slice fC cC.length fD):=(ah fu.out 1).trans rfl
   have Fm:w3.cell? ⟨jH,2,none⟩=some (.string cg):=(ah fu.out 2).trans rfl
   have VW:w3.cell? ⟨jH,3,none⟩=some (.string cN):=(ah fu.out 3).trans rfl
   have VX:w3.cell? ⟨jH,4,none⟩=some (.bool cR):=(ah fu.out 4).trans rfl
   have Cj:=af fu.out 0
   have Ck:=af fu.out 1
   have Fp:=af fu.out 2
   have VY:=af fu.out 3
   have VZ:=af fu.out 4
   go_wp2
   go_meet
   case rel=>exact ⟨_,(true),b9,H',⟨iT⟩,⟨sA⟩,⟨nv⟩⟩
  ·rw [if_neg c4] at H
   have nB:decide (20 < (cC.length:Int))=false:=decide_eq_false c4
   have LJ:decide (20 < cC.length)=false:=decide_eq_false ak
   clear c4
   (first|rw [nB]|(simp only [cU,dh];rw [nB])|skip)
   have H':=aa.mk H
   clear H
   have Oa:w3.cell? ⟨jH,0,none⟩=some (.bool bS):=(ah fu.out 0).trans rfl
   have Ob:w3.cell? ⟨jH,1,none⟩=some (.slice fC cC.length fD):=(ah fu.out 1).trans rfl
   have Wy:w3.cell? ⟨jH,2,none⟩=some (.string cg):=(ah fu.out 2).trans rfl
   have Wz:w3.cell? ⟨jH,3,none⟩=some (.string cN):=(ah fu.out 3).trans rfl
   have WA:w3.cell? ⟨jH,4,none⟩=some (.bool cR):=(ah fu.out 4).trans rfl
   have Oc:=af fu.out 0
   have Od:=af fu.out 1
   have WB:=af fu.out 2
   have WC:=af fu.out 3
   have WD:=af fu.out 4
   go_wp2
   go_meet
   case rel=>exact ⟨_,(decide ((cg.size:Int) > 64)),b9,H',⟨iT⟩,⟨sA⟩,⟨nv⟩⟩
 case rest=>
  clear LI
  obtain ⟨kq,Bj,rfl,HA,NM,fu,HB⟩:=hcut
  cases kq with
  |zero=>exact absurd HA.out (by simp [bP.j0])
  |succ Dp=>
   have H:=HA.out
   clear HA
   simp only [bP.j0] at H
   by_cases c7:Bj=true
   ·subst c7
    rw [if_pos rfl] at H
    obtain rfl:=Option.some.inj H
    go_wp2
    go_ret
    exact ⟨cH,nv⟩
   ·replace c7:=Bool.eq_false_iff.mpr c7
    subst c7
    rw [if_neg (show ¬ (false=true) by decide)] at H
    obtain ⟨Cn,A8,H⟩:=bd_ H
    obtain ⟨⟨GV,GW,Lq,NK,Tm,aaU,aaV⟩,A9,H⟩:=bd_ H
    (try dsimp only at H)
    by_cases c10:aaV=0
    ·rw [if_pos c10] at H
     have pR:=beq_iff_eq.mpr c10
     have AK:=bne_eq_false_iff_eq.mpr c10
     clear c10
     by_cases c11:aaU=(Cn.size:Int)
     ·rw [if_pos c11] at H
      have oC:=beq_iff_eq.mpr c11
      have wM:=bne_eq_false_iff_eq.mpr c11
      clear c11
      obtain ⟨aez,G1,H⟩:=bd_ H
      obtain rfl:=Option.some.inj H
      have qD:wc.cell? ⟨jH,0,none⟩=some (.bool bS):=(ah fu.out 0).trans rfl
      have qE:wc.cell? ⟨jH,1,none⟩=some (.slice fC cC.length fD):=(ah fu.out 1).trans rfl
      have vo:wc.cell? ⟨jH,2,none⟩=some (.string cg):=(ah fu.out 2).trans rfl
      have Ek:wc.cell? ⟨jH,3,none⟩=some (.string cN):=(ah fu.out 3).trans rfl
      have El:wc.cell? ⟨jH,4,none⟩=some (.bool cR):=(ah fu.out 4).trans rfl
      have qF:=af fu.out 0
      have qG:=af fu.out 1
      have vp:=af fu.out 2
      have Em:=af fu.out 3
      have En:=af fu.out 4
      go_wp2_with (first|((with_reducible refine aK (f:=86) rfl ?_);refine bU (some 19) rfl rfl Tryz.func86 aq rfl #[.agg #[.bool bS,.slice fC cC.length fD,.string cg,.string cN,.bool cR]] rfl cz ?_;(with_reducible refine (bq.calls Dp bS _ _ cC cg cN cR Cn _ ?aT ?cw A8.out).mono ?_);(case aT=>repeat (first|exact (Kd.jK mI.out HB.out)|(with_reducible refine Kd.jg ?_ _)|(with_reducible refine Kd.jh ?_ _)|(with_reducible refine Kd.kL ?_)));(case cw=>exact oZ.out);rintro e w14 ⟨rfl,hb⟩;refine ⟨_,rfl,?_⟩;replace fu:=aa.mk (aC sA hb);replace HB:=aa.mk (aA nv hb);(try clear hb))|((with_reducible refine aK (f:=24) rfl ?_);refine bU (some 22) rfl rfl Tryz.func24 aq rfl #[.string Cn] rfl cz ?_;(with_reducible refine (aG.calls Dp Cn GV GW Lq NK Tm aaU aaV _ ?aT A9.out).mono ?_);(case aT=>exact aJ.below HG.out nv);rintro e QX ⟨aiI,rfl,ho0,hb⟩;refine ⟨_,rfl,?_⟩;have vR:=aa.mk (Kd.kD ho0 (dm nv));replace fu:=aa.mk (aC sA hb);replace HB:=aa.mk (aA nv hb);(try clear hb);(try clear ho0))|((with_reducible refine cB (N:=4) rfl ?_);(try (refine cL (by rfl) ?_;dsimp only));refine cj ?hg (N:=4) ?hd (cs:=#[.bool false,.slice none 0 0,.string (⟨#[]⟩:ByteArray),.string (⟨#[]⟩:ByteArray),.bool false]) (t:=32) ?hr ?_;(case hd=>rfl);(case hg=>rfl);(case hr=>first|(go_simp;done)|(go_simp;rfl));intro kH hg G5 cE hb;replace vR:=aa.mk (Kd.ck I8 hb);have kI:=aa.mk (cE);have acW:=aa.mk ((BV:w.heap.size≤kH));have U2:=aa.mk ((BV:w.heap.size≤kH));replace HB:=aa.mk (aA nv hb);have nk:=aa.mk ((I1:jH≠kH));have uC:=aa.mk ((I2:kH≠jH));replace fu:=aa.mk (aC sA hb);clear hb cE hg;have ain:=uC.out;have aio:=nk.out;have Jz:G5.cell? ⟨kH,0,none⟩=some (.bool false):=(ah kI.out 0).trans rfl;have JA:G5.cell? ⟨kH,1,none⟩=some (.slice none 0 0):=(ah kI.out 1).trans rfl;have RX:G5.cell? ⟨kH,2,none⟩=some (.string (⟨#[]⟩:ByteArray)):=(ah kI.out 2).trans rfl;have ZR:G5.cell? ⟨kH,3,none⟩=some (.string (⟨#[]⟩:ByteArray)):=(ah kI.out 3).trans rfl;have ZT:G5.cell? ⟨kH,4,none⟩=some (.bool false):=(ah kI.out 4).trans rfl;have JB:=af kI.out 0;have JC:=af kI.out 1;have RY:=af kI.out 2;have ZU:=af kI.out 3;have ZV:=af kI.out 4;obtain ⟨Tk,NJ,adl⟩:=Kd.gQ vR.out;subst adl;have Ea:G5.cell? ⟨jH,0,none⟩=some (.bool bS):=(ah fu.out 0).trans rfl;have Eb:G5.cell? ⟨jH,1,none⟩=some (.slice fC cC.length fD):=(ah fu.out 1).trans rfl;have RP:G5.cell? ⟨jH,2,none⟩=some (.string cg):=(ah fu.out 2).trans rfl;have ang:G5.cell? ⟨jH,3,none⟩=some (.string cN):=(ah fu.out 3).trans rfl;have anh:G5.cell? ⟨jH,4,none⟩=some (.bool cR):=(ah fu.out 4).trans rfl;have Ec:=af fu.out 0;have Ed:=af fu.out 1;have RQ:=af fu.out 2;have ani:=af fu.out 3;have anj:=af fu.out 4)|(go_at_call 87;(with_reducible refine (bK.calls Dp bS _ _ cC cg cN cR GV _ _ GW Lq NK Tm aez _ ?aT ?cw ?fO ?sW G1.out).mono ?_);(case aT=>exact Kd.jK mI.out EO);(case cw=>exact oZ.out);(case fO=>refine (Kd.cP (e:=9) (base:=w.heap.size) (ok:=fun k_ =>True) (n:=GW.length) (c:=NJ) ?_).2.2;exact P4);(case sW=>exact (Kd.cP vR.out).2.1);rintro e w21 ⟨rfl,hb⟩;replace vR:=aa.mk (Kd.ck P4 hb);replace fu:=aa.mk (aC (g:=jH) (o:= .cells #[.bool bS,.slice fC cC.length fD,.string cg,.string cN,.bool cR] 32 (0,0)) (by (with_reducible repeat (first|refine ay ?_ _|refine az ?_|refine av ?_ _));refine cQ ?_ nk.out _;(with_reducible repeat (first|refine ay ?_ _|refine az ?_|refine av ?_ _));refine cQ ?_ nk.out _;(with_reducible repeat (first|refine ay ?_ _|refine az ?_|refine av ?_ _));refine cQ ?_ nk.out _;(with_reducible repeat (first|refine ay ?_ _|refine az ?_|refine av ?_ _));refine cQ ?_ nk.out _;(with_reducible repeat (first|refine ay ?_ _|refine az ?_|refine av ?_ _));refine cQ ?_ nk.out _;(with_reducible repeat (first|refine ay ?_ _|refine az ?_|refine av ?_ _));exact fu.out) hb);replace kI:=aa.mk (aC (g:=kH) (o:= .cells #[.bool GV,.slice Tk GW.length NJ,.string Lq,.string NK,.bool Tm] 32 (0,0)) (by (with_reducible repeat (first|refine ay ?_ _|refine az ?_|refine av ?_ _));refine bR (cs:=#[.bool GV,.slice Tk GW.length NJ,.string Lq,.string NK,.bool false]) ?_ 4 _ rfl;(with_reducible repeat (first|refine ay ?_ _|refine az ?_|refine av ?_ _));refine bR (cs:=#[.bool GV,.slice Tk GW.length NJ,.string Lq,.string (⟨#[]⟩:ByteArray),.bool false]) ?_ 3 _ rfl;(with_reducible repeat (first|refine ay ?_ _|refine az ?_|refine av ?_ _));refine bR (cs:=#[.bool GV,.slice Tk GW.length NJ,.string (⟨#[]⟩:ByteArray),.string (⟨#[]⟩:ByteArray),.bool false]) ?_ 2 _ rfl;(with_reducible repeat (first|refine ay ?_ _|refine az ?_|refine av ?_ _));refine bR (cs:=#[.bool GV,.slice none 0 0,.string (⟨#[]⟩:ByteArray),.string (⟨#[]⟩:ByteArray),.bool false]) ?_ 1 _ rfl;(with_reducible repeat (first|refine ay ?_ _|refine az ?_|refine av ?_ _));refine bR (cs:=#[.bool false,.slice none 0 0,.string (⟨#[]⟩:ByteArray),.string (⟨#[]⟩:ByteArray),.bool false]) ?_ 0 _ rfl;(with_reducible repeat (first|refine ay ?_ _|refine az ?_|refine av ?_ _));exact kI.out) hb);replace HB:=aa.mk (aA EO hb);(try clear hb);(try clear hk)))
      go_ret
      exact ⟨cH,EO⟩
     ·rw [if_neg c11] at H
      have oC:=beq_eq_false_iff_ne.mpr c11
      have wM:=bne_iff_ne.mpr c11
      obtain rfl:=Option.some.inj H
      have QY:wc.cell? ⟨jH,0,none⟩=some (.bool bS):=(ah fu.out 0).trans rfl
      have QZ:wc.cell? ⟨jH,1,none⟩=some (.slice fC cC.length fD):=(ah fu.out 1).trans rfl
      have aao:wc.cell? ⟨jH,2,none⟩=some (.string cg):=(ah fu.out 2).trans rfl
      have ank:wc.cell? ⟨jH,3,none⟩=some (.string cN):=(ah fu.out 3).trans rfl
      have anl:wc.cell? ⟨jH,4,none⟩=some (.bool cR):=(ah fu.out 4).trans rfl
      have Q0:=af fu.out 0
      have Q3:=af fu.out 1
      have aap:=af fu.out 2
      have anm:=af fu.out 3
      have ann:=af fu.out 4
      go_wp2_with (first|((with_reducible refine aK (f:=86) rfl ?_);refine bU (some 19) rfl rfl Tryz.func86 aq rfl #[.agg #[.bool bS,.slice fC cC.length fD,.string cg,.string cN,.bool cR]] rfl cz ?_;(with_reducible refine (bq.calls Dp bS _ _ cC cg cN cR Cn _ ?aT ?cw A8.out).mono ?_);(case aT=>repeat (first|exact (Kd.jK mI.out HB.out)|(with_reducible refine Kd.jg ?_ _)|(with_reducible refine Kd.jh ?_ _)|(with_reducible refine Kd.kL ?_)));(case cw=>exact oZ.out);rintro e Q4 ⟨rfl,hb⟩;refine ⟨_,rfl,?_⟩;replace fu:=aa.mk (aC sA hb);replace HB:=aa.mk (aA nv hb);(try clear hb))|((with_reducible refine aK (f:=24) rfl ?_);refine bU (some 22) rfl rfl Tryz.func24 aq rfl #[.string Cn] rfl cz ?_;(with_reducible refine (aG.calls Dp Cn GV GW Lq NK Tm aaU aaV _ ?aT A9.out).mono ?_);(case aT=>exact aJ.below HG.out nv);rintro e RR ⟨aiI,rfl,ho0,hb⟩;refine ⟨_,rfl,?_⟩;have vR:=aa.mk (Kd.kD ho0 (dm nv));replace fu:=aa.mk (aC sA hb);replace HB:=aa.mk (aA nv hb);(try clear hb);(try clear ho0))|((with_reducible refine cB (N:=4) rfl ?_);(try (refine cL (by rfl) ?_;dsimp only));refine cj ?hg (N:=4) ?hd (cs:=#[.bool false,.slice none 0 0,.string (⟨#[]⟩:ByteArray),.string (⟨#[]⟩:ByteArray),.bool false]) (t:=32) ?hr ?_;(case hd=>rfl);(case hg=>rfl);(case hr=>first|(go_simp;done)|(go_simp;rfl));intro kH hg LY cE hb;replace vR:=aa.mk (Kd.ck I8 hb);have kI:=aa.mk (cE);have acW:=aa.mk ((BV:w.heap.size≤kH));have U2:=aa.mk ((BV:w.heap.size≤kH));replace HB:=aa.mk (aA nv hb);have nk:=aa.mk ((I1:jH≠kH));have uC:=aa.mk ((I2:kH≠jH));replace fu:=aa.mk (aC sA hb);clear hb cE hg;have acw:=uC.out;have acy:=nk.out;have uZ:LY.cell? ⟨kH,0,none⟩=some (.bool false):=(ah kI.out 0).trans rfl;have u5:LY.cell? ⟨kH,1,none⟩=some (.slice none 0 0):=(ah kI.out 1).trans rfl;have yA:LY.cell? ⟨kH,2,none⟩=some (.string (⟨#[]⟩:ByteArray)):=(ah kI.out 2).trans rfl;have yB:LY.cell? ⟨kH,3,none⟩=some (.string (⟨#[]⟩:ByteArray)):=(ah kI.out 3).trans rfl;have yC:LY.cell? ⟨kH,4,none⟩=some (.bool false):=(ah kI.out 4).trans rfl;have u7:=af kI.out 0;have u9:=af kI.out 1;have yD:=af kI.out 2;have yE:=af kI.out 3;have yF:=af kI.out 4;obtain ⟨lI,kO,aeA⟩:=Kd.gQ vR.out;subst aeA))
      go_ret
      exact ⟨cH,EO⟩
    ·rw [if_neg c10] at H
     have pR:=beq_eq_false_iff_ne.mpr c10
     have AK:=bne_iff_ne.mpr c10
     obtain rfl:=Option.some.inj H
     have Ee:wc.cell? ⟨jH,0,none⟩=some (.bool bS):=(ah fu.out 0).trans rfl
     have Ef:wc.cell? ⟨jH,1,none⟩=some (.slice fC cC.length fD):=(ah fu.out 1).trans rfl
     have Kl:wc.cell? ⟨jH,2,none⟩=some (.string cg):=(ah fu.out 2).trans rfl
     have RL:wc.cell? ⟨jH,3,none⟩=some (.string cN):=(ah fu.out 3).trans rfl
     have RM:wc.cell? ⟨jH,4,none⟩=some (.bool cR):=(ah fu.out 4).trans rfl
     have Eg:=af fu.out 0
     have Eh:=af fu.out 1
     have Km:=af fu.out 2
     have RN:=af fu.out 3
     have RO:=af fu.out 4
     go_wp2_with (first|((with_reducible refine aK (f:=86) rfl ?_);refine bU (some 19) rfl rfl Tryz.func86 aq rfl #[.agg #[.bool bS,.slice fC cC.length fD,.string cg,.string cN,.bool cR]] rfl cz ?_;(with_reducible refine (bq.calls Dp bS _ _ cC cg cN cR Cn _ ?aT ?cw A8.out).mono ?_);(case aT=>repeat (first|exact (Kd.jK mI.out HB.out)|(with_reducible refine Kd.jg ?_ _)|(with_reducible refine Kd.jh ?_ _)|(with_reducible refine Kd.kL ?_)));(case cw=>exact oZ.out);rintro e pX ⟨rfl,hb⟩;refine ⟨_,rfl,?_⟩;replace fu:=aa.mk (aC sA hb);replace HB:=aa.mk (aA nv hb);(try clear hb))|((with_reducible refine aK (f:=24) rfl ?_);refine bU (some 22) rfl rfl Tryz.func24 aq rfl #[.string Cn] rfl cz ?_;(with_reducible refine (aG.calls Dp Cn GV GW Lq NK Tm aaU aaV _ ?aT A9.out).mono ?_);(case aT=>exact aJ.below HG.out nv);rintro e TF ⟨aiI,rfl,ho0,hb⟩;refine ⟨_,rfl,?_⟩;have vR:=aa.mk (Kd.kD ho0 (dm nv));replace fu:=aa.mk (aC sA hb);replace HB:=aa.mk (aA nv hb);(try clear hb);(try clear ho0))|((with_reducible refine cB (N:=4) rfl ?_);(try (refine cL (by rfl) ?_;dsimp only));refine cj ?hg (N:=4) ?hd (cs:=#[.bool false,.slice none 0 0,.string (⟨#[]⟩:ByteArray),.string (⟨#[]⟩:ByteArray),.bool false]) (t:=32) ?hr ?_;(case hd=>rfl);(case hg=>rfl);(case hr=>first|(go_simp;done)|(go_simp;rfl));intro kH hg JH cE hb;replace vR:=aa.mk (Kd.ck I8 hb);have kI:=aa.mk (cE);have acW:=aa.mk ((BV:w.heap.size≤kH));have U2:=aa.mk ((BV:w.heap.size≤kH));replace HB:=aa.mk (aA nv hb);have nk:=aa.mk ((I1:jH≠kH));have uC:=aa.mk ((I2:kH≠jH));replace fu:=aa.mk (aC sA hb);clear hb cE hg;have at3:=uC.out;have at4:=nk.out;have Sh:JH.cell? ⟨kH,0,none⟩=some (.bool false):=(ah kI.out 0).trans rfl;have Si:JH.cell? ⟨kH,1,none⟩=some (.slice none 0 0):=(ah kI.out 1).trans rfl;have Sj:JH.cell? ⟨kH,2,none⟩=some (.string (⟨#[]⟩:ByteArray)):=(ah kI.out 2).trans rfl;have aad:JH.cell? ⟨kH,3,none⟩=some (.string (⟨#[]⟩:ByteArray)):=(ah kI.out 3).trans rfl;have aae:JH.cell? ⟨kH,4,none⟩=some (.bool false):=(ah kI.out 4).trans rfl;have Sk:=af kI.out 0;have Sl:=af kI.out 1;have Sm:=af kI.out 2;have aaf:=af kI.out 3;have aag:=af kI.out 4;obtain ⟨awu,awv,aqE⟩:=Kd.gQ vR.out;subst aqE))
     go_ret
     exact ⟨cH,EO⟩
def gA.f (k:Nat) (bS:Bool) (cC:List ByteArray) (cg:ByteArray) (cN:ByteArray) (cR:Bool):Option (ByteArray×Int):=(bP.f k bS cC cg cN cR).bind fun Xx=>(if Xx=true then ((bq.f k bS cC cg cN cR).bind fun Xy=>(some (Xy,0))) else (some ((⟨#[]⟩:ByteArray),150)))
theorem gA.mono:∀ a0 a1 a2 a3 a4 k,bL (gA.f k a0 a1 a2 a3 a4) (gA.f (k + 1) a0 a1 a2 a3 a4):=by
 intro a0 a1 a2 a3 a4 k
 unfold gA.f
 repeat' first
  |(with_reducible first|exact bP.mono _ _ _ _ _ _|exact bq.mono _ _ _ _ _ _|exact bL.refl _|exact bL.none _|refine bL.ite ?_ ?_|refine bL.bind ?_ (fun _ =>?_))
  |exact bP.mono _ _ _ _ _ _
  |exact bq.mono _ _ _ _ _ _
  |exact bL.none _
  |refine bL.ite ?_ ?_
  |refine bL.bind ?_ (fun _ =>?_)
theorem gA.calls (k:Nat) (bS:Bool) (fC:Option Addr) (fD:Nat) (cC:List ByteArray) (cg:ByteArray) (cN:ByteArray) (cR:Bool) (r1:ByteArray) (r2:Int) (w:World) (oX:Kd.C Kd.string w fC cC.length cC) (oY:cC.length≤fD) (hG:aJ w) (h:gA.f k bS cC cg cN cR=some (r1,r2)):
 Calls Tryz.prog 31 #[.agg #[.bool bS,.slice fC cC.length fD,.string cg,.string cN,.bool cR]] w fun e w'=>e= .returned (.tuple #[.string r1,.int .i64 r2])∧Below w.heap.size w w':=by
 have DA:=Tryz.underlying32
 have mI:=aa.mk oX
 have oZ:=aa.mk oY
 clear oX oY
 have HB:=aa.mk (Below.refl w.heap.size w)
 have HG:=aa.mk hG
 clear hG
 have H:((bP.f k bS cC cg cN cR).bind fun Xx=>(if Xx=true then ((bq.f k bS cC cg cN cR).bind fun Xy=>(some (Xy,0))) else (some ((⟨#[]⟩:ByteArray),150))))=some (r1,r2):=h
 clear h
 obtain ⟨Xx,A2,H⟩:=bd_ H
 by_cases c3:Xx=true
 ·subst c3
  rw [if_pos rfl] at H
  obtain ⟨Xy,A4,H⟩:=bd_ H
  simp only [Option.some.injEq,Prod.mk.injEq] at H
  obtain ⟨rfl,rfl⟩:=H
  go_enter Tryz.func31,Tryz.ntmps31
  go_wp2_with (first|((with_reducible refine cB (N:=1) rfl ?_);refine cj ?hg (N:=1) ?hd (cs:=#[.bool bS,.slice fC cC.length fD,.string cg,.string cN,.bool cR]) (t:=32) ?hr ?_;(case hd=>rfl);(case hg=>rfl);(case hr=>first|(go_simp;done)|(go_simp;rfl));intro pE hg w5 cE hb;have kJ:=aa.mk (cE);have aiJ:=aa.mk ((dI:w.heap.size≤pE));have aby:=aa.mk ((dI:w.heap.size≤pE));replace HB:=aa.mk (aA bG hb);clear hb cE hg;have Oa:w5.cell? ⟨pE,0,none⟩=some (.bool bS):=(ah kJ.out 0).trans rfl;have Ob:w5.cell? ⟨pE,1,none⟩=some (.slice fC cC.length fD):=(ah kJ.out 1).trans rfl;have Wy:w5.cell? ⟨pE,2,none⟩=some (.string cg):=(ah kJ.out 2).trans rfl;have Wz:w5.cell? ⟨pE,3,none⟩=some (.string cN):=(ah kJ.out 3).trans rfl;have WA:w5.cell? ⟨pE,4,none⟩=some (.bool cR):=(ah kJ.out 4).trans rfl;have Oc:=af kJ.out 0;have Od:=af kJ.out 1;have WB:=af kJ.out 2;have WC:=af kJ.out 3;have WD:=af kJ.out 4)|((with_reducible refine aK (f:=30) rfl ?_);refine bU (some 5) rfl rfl Tryz.func30 aq rfl #[.agg #[.bool bS,.slice fC cC.length fD,.string cg,.string cN,.bool cR]] rfl cz ?_;(with_reducible refine (bP.calls k bS _ _ cC cg cN cR true _ ?aT ?cw ?fO A2.out).mono ?_);(case aT=>repeat (first|exact (Kd.jK mI.out HB.out)|(with_reducible refine Kd.jg ?_ _)|(with_reducible refine Kd.jh ?_ _)|(with_reducible refine Kd.kL ?_)));(case cw=>exact oZ.out);(case fO=>exact aJ.below HG.out zq);rintro e w7 ⟨rfl,hb⟩;refine ⟨_,rfl,?_⟩;replace kJ:=aa.mk (aC I5 hb);replace HB:=aa.mk (aA zq hb);(try clear hb);have zy:w7.cell? ⟨pE,0,none⟩=some (.bool bS):=(ah kJ.out 0).trans rfl;have zz:w7.cell? ⟨pE,1,none⟩=some (.slice fC cC.length fD):=(ah kJ.out 1).trans rfl;have Fq:w7.cell? ⟨pE,2,none⟩=some (.string cg):=(ah kJ.out 2).trans rfl;have Oj:w7.cell? ⟨pE,3,none⟩=some (.string cN):=(ah kJ.out 3).trans rfl;have Ol:w7.cell? ⟨pE,4,none⟩=some (.bool cR):=(ah kJ.out 4).trans rfl;have zA:=af kJ.out 0;have zB:=af kJ.out 1;have Fu:=af kJ.out 2;have Om:=af kJ.out 3;have Oo:=af kJ.out 4)|((with_reducible refine aK (f:=86) rfl ?_);refine bU (some 8) rfl rfl Tryz.func86 aq rfl #[.agg #[.bool bS,.slice fC cC.length fD,.string cg,.string cN,.bool cR]] rfl cz ?_;(with_reducible refine (bq.calls k bS _ _ cC cg cN cR Xy _ ?aT ?cw A4.out).mono ?_);(case aT=>repeat (first|exact (Kd.jK mI.out HB.out)|(with_reducible refine Kd.jg ?_ _)|(with_reducible refine Kd.jh ?_ _)|(with_reducible refine Kd.kL ?_)));(case cw=>exact oZ.out);rintro e w9 ⟨rfl,hb⟩;refine ⟨_,rfl,?_⟩;replace kJ:=aa.mk (aC I5 hb);replace HB:=aa.mk (aA zq hb);(try clear hb)))
  go_ret2
  exact ⟨cH,zq⟩
 ·replace c3:=Bool.eq_false_iff.mpr c3
  subst c3
  rw [if_neg (show ¬ (false=true) by decide)] at H
  simp only [Option.some.injEq,Prod.mk.injEq] at H
  obtain ⟨rfl,rfl⟩:=H
  go_enter Tryz.func31,Tryz.ntmps31
  go_wp2_with (first|((with_reducible refine cB (N:=1) rfl ?_);refine cj ?hg (N:=1) ?hd (cs:=#[.bool bS,.slice fC cC.length fD,.string cg,.string cN,.bool cR]) (t:=32) ?hr ?_;(case hd=>rfl);(case hg=>rfl);(case hr=>first|(go_simp;done)|(go_simp;rfl));intro pE hg um cE hb;have kJ:=aa.mk (cE);have aiJ:=aa.mk ((dI:w.heap.size≤pE));have aby:=aa.mk ((dI:w.heap.size≤pE));replace HB:=aa.mk (aA bG hb);clear hb cE hg;have AZ:um.cell? ⟨pE,0,none⟩=some (.bool bS):=(ah kJ.out 0).trans rfl;have Ba:um.cell? ⟨pE,1,none⟩=some (.slice fC cC.length fD):=(ah kJ.out 1).trans rfl;have Bb:um.cell? ⟨pE,2,none⟩=some (.string cg):=(ah kJ.out 2).trans rfl;have Z3:um.cell? ⟨pE,3,none⟩=some (.string cN):=(ah kJ.out 3).trans rfl;have Z4:um.cell? ⟨pE,4,none⟩=some (.bool cR):=(ah kJ.out 4).trans rfl;have Bc:=af kJ.out 0;have Bd:=af kJ.out 1;have Be:=af kJ.out 2;have Z5:=af kJ.out 3;have Z6:=af kJ.out 4)|((with_reducible refine aK (f:=30) rfl ?_);refine bU (some 5) rfl rfl Tryz.func30 aq rfl #[.agg #[.bool bS,.slice fC cC.length fD,.string cg,.string cN,.bool cR]] rfl cz ?_;(with_reducible refine (bP.calls k bS _ _ cC cg cN cR false _ ?aT ?cw ?fO A2.out).mono ?_);(case aT=>repeat (first|exact (Kd.jK mI.out HB.out)|(with_reducible refine Kd.jg ?_ _)|(with_reducible refine Kd.jh ?_ _)|(with_reducible refine Kd.kL ?_)));(case cw=>exact oZ.out);(case fO=>exact aJ.below HG.out zq);rintro e Ld ⟨rfl,hb⟩;refine ⟨_,rfl,?_⟩;replace kJ:=aa.mk (aC I5 hb);replace HB:=aa.mk (aA zq hb);(try clear hb)))
  go_ret2
  exact ⟨cH,zq⟩
def eO.f (k:Nat) (bS:ByteArray) (dZ:ByteArray) (cg:Bool):Option (ByteArray×Int):=if dZ.toList=([]:List UInt8) then (some ((⟨#[]⟩:ByteArray),150)) else ((bP.f k false ([]:List ByteArray) bS dZ cg).bind fun Xz=>(if Xz=true then ((bH.f k bS dZ cg).bind fun O5=>(some (O5,0))) else (some ((⟨#[]⟩:ByteArray),150))))
theorem eO.mono:∀ a0 a1 a2 k,bL (eO.f k a0 a1 a2) (eO.f (k + 1) a0 a1 a2):=by
 intro a0 a1 a2 k
 unfold eO.f
 repeat' first
  |(with_reducible first|exact bP.mono _ _ _ _ _ _|exact bH.mono _ _ _ _|exact bL.refl _|exact bL.none _|refine bL.ite ?_ ?_|refine bL.bind ?_ (fun _ =>?_))
  |exact bP.mono _ _ _ _ _ _
  |exact bH.mono _ _ _ _
  |exact bL.none _
  |refine bL.ite ?_ ?_
  |refine bL.bind ?_ (fun _ =>?_)
theorem eO.calls (k:Nat) (bS:ByteArray) (dZ:ByteArray) (cg:Bool) (r1:ByteArray) (r2:Int) (w:World) (hG:aJ w) (h:eO.f k bS dZ cg=some (r1,r2)):
 Calls Tryz.prog 32 #[.agg #[.string bS,.string dZ,.bool cg]] w fun e w'=>e= .returned (.tuple #[.string r1,.int .i64 r2])∧Below w.heap.size w w':=by
 have wT:=Tryz.underlying30
 have DA:=Tryz.underlying32
 have HB:=aa.mk (Below.refl w.heap.size w)
 have HG:=aa.mk hG
 clear hG
 have H:(if dZ.toList=([]:List UInt8) then (some ((⟨#[]⟩:ByteArray),150)) else ((bP.f k false ([]:List ByteArray) bS dZ cg).bind fun Xz=>(if Xz=true then ((bH.f k bS dZ cg).bind fun O5=>(some (O5,0))) else (some ((⟨#[]⟩:ByteArray),150)))))=some (r1,r2):=h
 clear h
 by_cases c2:dZ.toList=([]:List UInt8)
 ·rw [if_pos c2] at H
  have sP:=beq_iff_eq.mpr c2
  have JM:=bne_eq_false_iff_eq.mpr c2
  clear c2
  simp only [Option.some.injEq,Prod.mk.injEq] at H
  obtain ⟨rfl,rfl⟩:=H
  go_enter Tryz.func32,Tryz.ntmps32
  go_wp2_with (first|((with_reducible refine cB (N:=1) rfl ?_);refine cj ?hg (N:=1) ?hd (cs:=#[.string bS,.string dZ,.bool cg]) (t:=30) ?hr ?_;(case hd=>rfl);(case hg=>rfl);(case hr=>first|(go_simp;done)|(go_simp;rfl));intro pF hg w3 cE hb;have lS:=aa.mk (cE);have acX:=aa.mk ((dI:w.heap.size≤pF));have UZ:=aa.mk ((dI:w.heap.size≤pF));replace HB:=aa.mk (aA bG hb);clear hb cE hg;have aep:w3.cell? ⟨pF,0,none⟩=some (.string bS):=(ah lS.out 0).trans rfl;have aer:w3.cell? ⟨pF,1,none⟩=some (.string dZ):=(ah lS.out 1).trans rfl;have aes:w3.cell? ⟨pF,2,none⟩=some (.bool cg):=(ah lS.out 2).trans rfl;have aet:=af lS.out 0;have aeu:=af lS.out 1;have aev:=af lS.out 2))
  go_ret2
  exact ⟨cH,wA⟩
 ·rw [if_neg c2] at H
  have sP:=beq_eq_false_iff_ne.mpr c2
  have JM:=bne_iff_ne.mpr c2
  obtain ⟨Xz,A5,H⟩:=bd_ H
  by_cases c6:Xz=true
  ·subst c6
   rw [if_pos rfl] at H
   obtain ⟨O5,A7,H⟩:=bd_ H
   simp only [Option.some.injEq,Prod.mk.injEq] at H
   obtain ⟨rfl,rfl⟩:=H
   go_enter Tryz.func32,Tryz.ntmps32
   go_wp2_with (first|((with_reducible refine cB (N:=1) rfl ?_);refine cj ?hg (N:=1) ?hd (cs:=#[.string bS,.string dZ,.bool cg]) (t:=30) ?hr ?_;(case hd=>rfl);(case hg=>rfl);(case hr=>first|(go_simp;done)|(go_simp;rfl));intro pF hg w8 cE hb;have lS:=aa.mk (cE);have acX:=aa.mk ((dI:w.heap.size≤pF));have UZ:=aa.mk ((dI:w.heap.size≤pF));replace HB:=aa.mk (aA bG hb);clear hb cE hg;have rG:w8.cell? ⟨pF,0,none⟩=some (.string bS):=(ah lS.out 0).trans rfl;have rH:w8.cell? ⟨pF,1,none⟩=some (.string dZ):=(ah lS.out 1).trans rfl;have zD:w8.cell? ⟨pF,2,none⟩=some (.bool cg):=(ah lS.out 2).trans rfl;have rI:=af lS.out 0;have rJ:=af lS.out 1;have zE:=af lS.out 2)|(go_at_call 30;(refine (bP.calls k false _ _ ([]:List ByteArray) bS dZ cg true _ ?aT ?cw ?fO A5.out).mono ?_);(case aT=>exact Kd.CP _ _);(case cw=>exact Nat.le_refl _);(case fO=>exact aJ.below HG.out wA);rintro e um ⟨rfl,hb⟩;replace lS:=aa.mk (aC I6 hb);replace HB:=aa.mk (aA wA hb);(try clear hb);have AZ:um.cell? ⟨pF,0,none⟩=some (.string bS):=(ah lS.out 0).trans rfl;have Ba:um.cell? ⟨pF,1,none⟩=some (.string dZ):=(ah lS.out 1).trans rfl;have Bb:um.cell? ⟨pF,2,none⟩=some (.bool cg):=(ah lS.out 2).trans rfl;have Bc:=af lS.out 0;have Bd:=af lS.out 1;have Be:=af lS.out 2)|((with_reducible refine aK (f:=88) rfl ?_);refine bU (some 14) rfl rfl Tryz.func88 aq rfl #[.agg #[.string bS,.string dZ,.bool cg]] rfl cz ?_;(with_reducible refine (bH.calls k bS dZ cg O5 _ A7.out).mono ?_);rintro e Ld ⟨rfl,hb⟩;refine ⟨_,rfl,?_⟩;replace lS:=aa.mk (aC I6 hb);replace HB:=aa.mk (aA wA hb);(try clear hb)))
   go_ret2
   exact ⟨cH,wA⟩
  ·replace c6:=Bool.eq_false_iff.mpr c6
   subst c6
   rw [if_neg (show ¬ (false=true) by decide)] at H
   simp only [Option.some.injEq,Prod.mk.injEq] at H
   obtain ⟨rfl,rfl⟩:=H
   go_enter Tryz.func32,Tryz.ntmps32
   go_wp2_with (first|((with_reducible refine cB (N:=1) rfl ?_);refine cj ?hg (N:=1) ?hd (cs:=#[.string bS,.string dZ,.bool cg]) (t:=30) ?hr ?_;(case hd=>rfl);(case hg=>rfl);(case hr=>first|(go_simp;done)|(go_simp;rfl));intro pF hg Hq cE hb;have lS:=aa.mk (cE);have acX:=aa.mk ((dI:w.heap.size≤pF));have UZ:=aa.mk ((dI:w.heap.size≤pF));replace HB:=aa.mk (aA bG hb);clear hb cE hg;have AP:Hq.cell? ⟨pF,0,none⟩=some (.string bS):=(ah lS.out 0).trans rfl;have AQ:Hq.cell? ⟨pF,1,none⟩=some (.string dZ):=(ah lS.out 1).trans rfl;have Eo:Hq.cell? ⟨pF,2,none⟩=some (.bool cg):=(ah lS.out 2).trans rfl;have AR:=af lS.out 0;have AU:=af lS.out 1;have Ep:=af lS.out 2)|(go_at_call 30;(refine (bP.calls k false _ _ ([]:List ByteArray) bS dZ cg false _ ?aT ?cw ?fO A5.out).mono ?_);(case aT=>exact Kd.CP _ _);(case cw=>exact Nat.le_refl _);(case fO=>exact aJ.below HG.out wA);rintro e QX ⟨rfl,hb⟩;replace lS:=aa.mk (aC I6 hb);replace HB:=aa.mk (aA wA hb);(try clear hb)))
   go_ret2
   exact ⟨cH,wA⟩
end Go.Proofs.YtokpnfljjjjikaaGreatDoor.mY
