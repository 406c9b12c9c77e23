import Derived.Test.YtokpnfljjjjikaaGreatDoorQCbx0
namespace Go.Proofs.YtokpnfljjjjikaaGreatDoor.n9
open Go.RowKit Go.Proofs.aj.bQ Go.Proofs.aj.gf Go.Proofs.aj.cT
attribute [local go_sem] jt iY kQ kJ iJ iK ju jv
set_option linter.unusedVariables false
set_option linter.unusedSimpArgs false
mutual
def bN.l0:Nat→Int→Int→ByteArray→ByteArray→Bool→Option (Bool)
 | 0,_,_,_,_,_ =>none
 |k + 1,x9,FL,jY,lV,qH=>if FL < x9 then (if 0≤FL then (if FL < (jY.size:Int) then (if (bt jY FL)≥65 then (if (bt jY FL)≤90 then (bN.l0 k x9 (wrap64 (FL + 1)) jY lV qH) else (if (bt jY FL)≥48 then (if (bt jY FL)≤57 then (bN.l0 k x9 (wrap64 (FL + 1)) jY lV qH) else (if (bt jY FL)=45 then (if FL > 0 then (bN.l0 k x9 (wrap64 (FL + 1)) jY lV qH) else (some false)) else (some false))) else (if (bt jY FL)=45 then (if FL > 0 then (bN.l0 k x9 (wrap64 (FL + 1)) jY lV qH) else (some false)) else (some false)))) else (if (bt jY FL)≥48 then (if (bt jY FL)≤57 then (bN.l0 k x9 (wrap64 (FL + 1)) jY lV qH) else (if (bt jY FL)=45 then (if FL > 0 then (bN.l0 k x9 (wrap64 (FL + 1)) jY lV qH) else (some false)) else (some false))) else (if (bt jY FL)=45 then (if FL > 0 then (bN.l0 k x9 (wrap64 (FL + 1)) jY lV qH) else (some false)) else (some false)))) else (none)) else (none)) else (bN.l1 k (lV.size:Int) 0 jY lV qH)
def bN.l1:Nat→Int→Int→ByteArray→ByteArray→Bool→Option (Bool)
 | 0,_,_,_,_,_ =>none
 |k + 1,x43,x44,jY,lV,qH=>if x44 < x43 then (if 0≤x44 then (if x44 < (lV.size:Int) then (if (bt lV x44) < 33 then (some false) else (if (bt lV x44) > 126 then (some false) else (if (bt lV x44)=61 then (some false) else (bN.l1 k x43 (wrap64 (x44 + 1)) jY lV qH)))) else (none)) else (none)) else (if jY.toList=([]:List UInt8) then (some false) else (some (qH == (lV.toList != ([]:List UInt8)))))
end
def bN.f (k:Nat) (aI:ByteArray) (bh:ByteArray) (bn:Bool):Option (Bool):=bN.l0 k (aI.size:Int) 0 aI bh bn
theorem bN.fU:∀ k,(∀ y0 y1 y2 y3 y4,cN (bN.l0 k y0 y1 y2 y3 y4) (bN.l0 (k + 1) y0 y1 y2 y3 y4))∧(∀ y0 y1 y2 y3 y4,cN (bN.l1 k y0 y1 y2 y3 y4) (bN.l1 (k + 1) y0 y1 y2 y3 y4))
 | 0=>⟨fun _ _ _ _ _ r h=>by simp [bN.l0] at h,fun _ _ _ _ _ r h=>by simp [bN.l1] at h⟩
 |k + 1=>by
  obtain ⟨oK,ih1⟩:=bN.fU k
  refine ⟨?_,?_⟩
  ·intro y0 y1 y2 y3 y4
   unfold bN.l0
   repeat' first
   |(with_reducible exact oK _ _ _ _ _)
   |(with_reducible exact ih1 _ _ _ _ _)
   |(with_reducible exact cN.refl _)
   |(with_reducible exact cN.none _)
   |(with_reducible refine cN.ite ?_ ?_)
   |(with_reducible refine cN.bind ?_ (fun _ =>?_))
   |refine cN.ite ?_ ?_
   |refine cN.bind ?_ (fun _ =>?_)
  ·intro y0 y1 y2 y3 y4
   unfold bN.l1
   repeat' first
   |(with_reducible exact oK _ _ _ _ _)
   |(with_reducible exact ih1 _ _ _ _ _)
   |(with_reducible exact cN.refl _)
   |(with_reducible exact cN.none _)
   |(with_reducible refine cN.ite ?_ ?_)
   |(with_reducible refine cN.bind ?_ (fun _ =>?_))
   |refine cN.ite ?_ ?_
   |refine cN.bind ?_ (fun _ =>?_)
theorem bN.mono:∀ a0 a1 a2 k,cN (bN.f k a0 a1 a2) (bN.f (k + 1) a0 a1 a2):=by
 intro a0 a1 a2 k
 obtain ⟨oK,ih1⟩:=bN.fU k
 unfold bN.f
 repeat' first
  |(with_reducible exact oK _ _ _ _ _)
  |(with_reducible exact ih1 _ _ _ _ _)
  |(with_reducible exact cN.refl _)
  |(with_reducible exact cN.none _)
  |(with_reducible refine cN.ite ?_ ?_)
  |(with_reducible refine cN.bind ?_ (fun _ =>?_))
  |refine cN.ite ?_ ?_
  |refine cN.bind ?_ (fun _ =>?_)
set_option maxHeartbeats 8000000 in
set_option maxRecDepth 100000 in
theorem bN.calls (k:Nat) (aI:ByteArray) (bh:ByteArray) (bn:Bool) (r:Bool) (w:World) (h:bN.f k aI bh bn=some r):
 Calls Tryz.prog 138 #[.agg #[.string aI,.string bh,.bool bn]] w fun e w'=>e= .returned (.bool r)∧Below w.heap.size w w':=by
 have UR:=Tryz.underlying58
 have HB:=ah.mk (Below.refl w.heap.size w)
 have H:(bN.l0 k (aI.size:Int) 0 aI bh bn)=some r:=h
 clear h
 have H':=ah.mk H
 clear H
 go_enter Tryz.func138,Tryz.ntmps138
 go_wp2_with (first|((with_reducible refine cK (N:=1) rfl ?_);refine cu ?hg (N:=1) ?hd (cs:=#[.string aI,.string bh,.bool bn]) (t:=58) ?hr ?_;(case hd=>rfl);(case hg=>rfl);(case hr=>first|(go_simp;done)|(go_simp;rfl));intro fK hg w2 cM hb;have bI:=ah.mk (az cA hb);have bP:=ah.mk (cM);have cw:=ah.mk ((dW:w.heap.size≤fK));have cW:=ah.mk ((dW:w.heap.size≤fK));clear HB;have HB:=bI;have cP:=bP;have aqW:=cw;have ae1:=cW;clear bI bP cw cW;clear hb cM hg;have wh:w2.cell? ⟨fK,0,none⟩=some (.string aI):=(af cP.out 0).trans rfl;have wj:w2.cell? ⟨fK,1,none⟩=some (.string bh):=(af cP.out 1).trans rfl;have LD:w2.cell? ⟨fK,2,none⟩=some (.bool bn):=(af cP.out 2).trans rfl;have wk:=aa cP.out 0;have wm:=aa cP.out 1;have LF:=aa cP.out 2))
 go_loopg [10] k (fun kq v10 w'=>∃ (dJ:Int),v10= .int .i64 dJ∧ah (bN.l0 kq (aI.size:Int) dJ aI bh bn=some r)∧ah (kq≤k)∧ah (w'.heap[fK]? =some (.cells #[.string aI,.string bh,.bool bn] 58 (0,0)))∧ah (Below w.heap.size w w'))
 case atStart=>exact ⟨(0),dL,H',⟨Nat.le_refl _⟩,⟨vW⟩,⟨kU⟩⟩
 case round=>
  clear H'
  try clear c1
  try clear p2
  try clear wh
  try clear wj
  try clear LD
  try clear wk
  try clear wm
  try clear LF
  obtain ⟨dJ,rfl,HA,wS,cP,HB⟩:=hrel
  cases gk with
  |zero=>exact absurd HA.out (by simp [bN.l0])
  |succ k1=>
   have H:=HA.out
   clear HA
   simp only [bN.l0] at H
   by_cases c4:dJ < (aI.size:Int)
   ·rw [if_pos c4] at H
    have nP:decide (dJ < (aI.size:Int))=true:=decide_eq_true c4
    clear c4
    by_cases c5: 0≤dJ
    ·rw [if_pos c5] at H
     have vZ:decide (0≤dJ)=true:=decide_eq_true c5
     clear c5
     by_cases c6:dJ < (aI.size:Int)
     ·rw [if_pos c6] at H
      have oW:decide (dJ < (aI.size:Int))=true:=decide_eq_true c6
      clear c6
      by_cases c8:(bt aI dJ)≥65
      ·rw [if_pos c8] at H
       have Dy:decide (65≤(bt aI dJ))=true:=decide_eq_true c8
       clear c8
       by_cases c9:(bt aI dJ)≤90
       ·rw [if_pos c9] at H
        have IM:decide ((bt aI dJ)≤90)=true:=decide_eq_true c9
        clear c9
        have H':=ah.mk H
        clear H
        have LG:wr.cell? ⟨fK,0,none⟩=some (.string aI):=(af cP.out 0).trans rfl
        have LH:wr.cell? ⟨fK,1,none⟩=some (.string bh):=(af cP.out 1).trans rfl
        have LI:wr.cell? ⟨fK,2,none⟩=some (.bool bn):=(af cP.out 2).trans rfl
        have LJ:=aa cP.out 0
        have LK:=aa cP.out 1
        have LL:=aa cP.out 2
        have p7: 0≤(dJ:Int):=of_decide_eq_true cO
        have q7:dJ < (aI.size:Int):=of_decide_eq_true cO
        have ES:=ig aI dJ
        replace p7:=eq_true p7
        replace q7:=eq_true q7
        go_wp2
        go_roundg k1
        case measure=>have:=wS.out;omega
        case rel=>exact ⟨(wrap64 (dJ + 1)),dL,H',⟨ko⟩,⟨vW⟩,⟨kU⟩⟩
       ·rw [if_neg c9] at H
        have IM:decide ((bt aI dJ)≤90)=false:=decide_eq_false c9
        clear c9
        by_cases c11:(bt aI dJ)≥48
        ·rw [if_pos c11] at H
         have AY:decide (48≤(bt aI dJ))=true:=decide_eq_true c11
         clear c11
         by_cases c12:(bt aI dJ)≤57
         ·rw [if_pos c12] at H
          have Eg:decide ((bt aI dJ)≤57)=true:=decide_eq_true c12
          clear c12
          have H':=ah.mk H
          clear H
          have nJ:wr.cell? ⟨fK,0,none⟩=some (.string aI):=(af cP.out 0).trans rfl
          have nK:wr.cell? ⟨fK,1,none⟩=some (.string bh):=(af cP.out 1).trans rfl
          have qh:wr.cell? ⟨fK,2,none⟩=some (.bool bn):=(af cP.out 2).trans rfl
          have nL:=aa cP.out 0
          have nM:=aa cP.out 1
          have qi:=aa cP.out 2
          have p7: 0≤(dJ:Int):=of_decide_eq_true cO
          have q7:dJ < (aI.size:Int):=of_decide_eq_true cO
          have ES:=ig aI dJ
          replace p7:=eq_true p7
          replace q7:=eq_true q7
          go_wp2
          go_roundg k1
          case measure=>have:=wS.out;omega
          case rel=>exact ⟨(wrap64 (dJ + 1)),dL,H',⟨ko⟩,⟨vW⟩,⟨kU⟩⟩
         ·rw [if_neg c12] at H
          have Eg:decide ((bt aI dJ)≤57)=false:=decide_eq_false c12
          clear c12
          by_cases c14:(bt aI dJ)=45
          ·rw [if_pos c14] at H
           have Np:((bt aI dJ) == 45)=true:=beq_iff_eq.mpr c14
           have Nq:((bt aI dJ) != 45)=false:=bne_eq_false_iff_eq.mpr c14
           clear c14
           by_cases c15:dJ > 0
           ·rw [if_pos c15] at H
            have GW:decide (0 < dJ)=true:=decide_eq_true c15
            clear c15
            have H':=ah.mk H
            clear H
            have oa:wr.cell? ⟨fK,0,none⟩=some (.string aI):=(af cP.out 0).trans rfl
            have oc:wr.cell? ⟨fK,1,none⟩=some (.string bh):=(af cP.out 1).trans rfl
            have rJ:wr.cell? ⟨fK,2,none⟩=some (.bool bn):=(af cP.out 2).trans rfl
            have og:=aa cP.out 0
            have om:=aa cP.out 1
            have rK:=aa cP.out 2
            have p7: 0≤(dJ:Int):=of_decide_eq_true cO
            have q7:dJ < (aI.size:Int):=of_decide_eq_true cO
            have ES:=ig aI dJ
            replace p7:=eq_true p7
            replace q7:=eq_true q7
            go_wp2
            go_roundg k1
            case measure=>have:=wS.out;omega
            case rel=>exact ⟨(wrap64 (dJ + 1)),dL,H',⟨ko⟩,⟨vW⟩,⟨kU⟩⟩
           ·rw [if_neg c15] at H
            have GW:decide (0 < dJ)=false:=decide_eq_false c15
            clear c15
            obtain rfl:=Option.some.inj H
            have u9:wr.cell? ⟨fK,0,none⟩=some (.string aI):=(af cP.out 0).trans rfl
            have vk:wr.cell? ⟨fK,1,none⟩=some (.string bh):=(af cP.out 1).trans rfl
            have Cj:wr.cell? ⟨fK,2,none⟩=some (.bool bn):=(af cP.out 2).trans rfl
            have vo:=aa cP.out 0
            have vq:=aa cP.out 1
            have Ck:=aa cP.out 2
            have p7: 0≤(dJ:Int):=of_decide_eq_true cO
            have q7:dJ < (aI.size:Int):=of_decide_eq_true cO
            have ES:=ig aI dJ
            replace p7:=eq_true p7
            replace q7:=eq_true q7
            go_wp2
            go_ret
            exact ⟨cU,kU⟩
          ·rw [if_neg c14] at H
           have Np:((bt aI dJ) == 45)=false:=beq_eq_false_iff_ne.mpr c14
           have Nq:((bt aI dJ) != 45)=true:=bne_iff_ne.mpr c14
           obtain rfl:=Option.some.inj H
           have zV:wr.cell? ⟨fK,0,none⟩=some (.string aI):=(af cP.out 0).trans rfl
           have zW:wr.cell? ⟨fK,1,none⟩=some (.string bh):=(af cP.out 1).trans rfl
           have Cl:wr.cell? ⟨fK,2,none⟩=some (.bool bn):=(af cP.out 2).trans rfl
           have zX:=aa cP.out 0
           have zY:=aa cP.out 1
           have Cm:=aa cP.out 2
           have p7: 0≤(dJ:Int):=of_decide_eq_true cO
           have q7:dJ < (aI.size:Int):=of_decide_eq_true cO
           have ES:=ig aI dJ
           replace p7:=eq_true p7
           replace q7:=eq_true q7
           go_wp2
           go_ret
           exact ⟨cU,kU⟩
        ·rw [if_neg c11] at H
         have AY:decide (48≤(bt aI dJ))=false:=decide_eq_false c11
         clear c11
         by_cases c19:(bt aI dJ)=45
         ·rw [if_pos c19] at H
          have wF:((bt aI dJ) == 45)=true:=beq_iff_eq.mpr c19
          have El:((bt aI dJ) != 45)=false:=bne_eq_false_iff_eq.mpr c19
          clear c19
          by_cases c20:dJ > 0
          ·rw [if_pos c20] at H
           have Jg:decide (0 < dJ)=true:=decide_eq_true c20
           clear c20
           have H':=ah.mk H
           clear H
           have rL:wr.cell? ⟨fK,0,none⟩=some (.string aI):=(af cP.out 0).trans rfl
           have rM:wr.cell? ⟨fK,1,none⟩=some (.string bh):=(af cP.out 1).trans rfl
           have rN:wr.cell? ⟨fK,2,none⟩=some (.bool bn):=(af cP.out 2).trans rfl
           have rO:=aa cP.out 0
           have rP:=aa cP.out 1
           have rQ:=aa cP.out 2
           have p7: 0≤(dJ:Int):=of_decide_eq_true cO
           have q7:dJ < (aI.size:Int):=of_decide_eq_true cO
           have ES:=ig aI dJ
           replace p7:=eq_true p7
           replace q7:=eq_true q7
           go_wp2
           go_roundg k1
           case measure=>have:=wS.out;omega
           case rel=>exact ⟨(wrap64 (dJ + 1)),dL,H',⟨ko⟩,⟨vW⟩,⟨kU⟩⟩
          ·rw [if_neg c20] at H
           have Jg:decide (0 < dJ)=false:=decide_eq_false c20
           clear c20
           obtain rfl:=Option.some.inj H
           have zZ:wr.cell? ⟨fK,0,none⟩=some (.string aI):=(af cP.out 0).trans rfl
           have z6:wr.cell? ⟨fK,1,none⟩=some (.string bh):=(af cP.out 1).trans rfl
           have Cn:wr.cell? ⟨fK,2,none⟩=some (.bool bn):=(af cP.out 2).trans rfl
           have z7:=aa cP.out 0
           have z8:=aa cP.out 1
           have Co:=aa cP.out 2
           have p7: 0≤(dJ:Int):=of_decide_eq_true cO
           have q7:dJ < (aI.size:Int):=of_decide_eq_true cO
           have ES:=ig aI dJ
           replace p7:=eq_true p7
           replace q7:=eq_true q7
           go_wp2
           go_ret
           exact ⟨cU,kU⟩
         ·rw [if_neg c19] at H
          have wF:((bt aI dJ) == 45)=false:=beq_eq_false_iff_ne.mpr c19
          have El:((bt aI dJ) != 45)=true:=bne_iff_ne.mpr c19
          obtain rfl:=Option.some.inj H
          have FM:wr.cell? ⟨fK,0,none⟩=some (.string aI):=(af cP.out 0).trans rfl
          have FN:wr.cell? ⟨fK,1,none⟩=some (.string bh):=(af cP.out 1).trans rfl
          have FO:wr.cell? ⟨fK,2,none⟩=some (.bool bn):=(af cP.out 2).trans rfl
          have FP:=aa cP.out 0
          have FQ:=aa cP.out 1
          have FR:=aa cP.out 2
          have p7: 0≤(dJ:Int):=of_decide_eq_true cO
          have q7:dJ < (aI.size:Int):=of_decide_eq_true cO
          have ES:=ig aI dJ
          replace p7:=eq_true p7
          replace q7:=eq_true q7
          go_wp2
          go_ret
          exact ⟨cU,kU⟩
      ·rw [if_neg c8] at H
       have Dy:decide (65≤(bt aI dJ))=false:=decide_eq_false c8
       clear c8
       by_cases c24:(bt aI dJ)≥48
       ·rw [if_pos c24] at H
        have M5:decide (48≤(bt aI dJ))=true:=decide_eq_true c24
        clear c24
        by_cases G5:(bt aI dJ)≤57
        ·rw [if_pos G5] at H
         have zh:decide ((bt aI dJ)≤57)=true:=decide_eq_true G5
         clear G5
         have H':=ah.mk H
         clear H
         have Kr:wr.cell? ⟨fK,0,none⟩=some (.string aI):=(af cP.out 0).trans rfl
         have Ks:wr.cell? ⟨fK,1,none⟩=some (.string bh):=(af cP.out 1).trans rfl
         have Kt:wr.cell? ⟨fK,2,none⟩=some (.bool bn):=(af cP.out 2).trans rfl
         have Ku:=aa cP.out 0
         have Kv:=aa cP.out 1
         have Kw:=aa cP.out 2
         have p7: 0≤(dJ:Int):=of_decide_eq_true cO
         have q7:dJ < (aI.size:Int):=of_decide_eq_true cO
         have ES:=ig aI dJ
         replace p7:=eq_true p7
         replace q7:=eq_true q7
         go_wp2
         go_roundg k1
         case measure=>have:=wS.out;omega
         case rel=>exact ⟨(wrap64 (dJ + 1)),dL,H',⟨ko⟩,⟨vW⟩,⟨kU⟩⟩
        ·rw [if_neg G5] at H
         have zh:decide ((bt aI dJ)≤57)=false:=decide_eq_false G5
         clear G5
         by_cases IJ:(bt aI dJ)=45
         ·rw [if_pos IJ] at H
          have TD:((bt aI dJ) == 45)=true:=beq_iff_eq.mpr IJ
          have TE:((bt aI dJ) != 45)=false:=bne_eq_false_iff_eq.mpr IJ
          clear IJ
          by_cases c28:dJ > 0
          ·rw [if_pos c28] at H
           have Ej:decide (0 < dJ)=true:=decide_eq_true c28
           clear c28
           have H':=ah.mk H
           clear H
           have Fq:wr.cell? ⟨fK,0,none⟩=some (.string aI):=(af cP.out 0).trans rfl
           have Fu:wr.cell? ⟨fK,1,none⟩=some (.string bh):=(af cP.out 1).trans rfl
           have Ky:wr.cell? ⟨fK,2,none⟩=some (.bool bn):=(af cP.out 2).trans rfl
           have Fv:=aa cP.out 0
           have Fw:=aa cP.out 1
           have Kz:=aa cP.out 2
           have p7: 0≤(dJ:Int):=of_decide_eq_true cO
           have q7:dJ < (aI.size:Int):=of_decide_eq_true cO
           have ES:=ig aI dJ
           replace p7:=eq_true p7
           replace q7:=eq_true q7
           go_wp2
           go_roundg k1
           case measure=>have:=wS.out;omega
           case rel=>exact ⟨(wrap64 (dJ + 1)),dL,H',⟨ko⟩,⟨vW⟩,⟨kU⟩⟩
          ·rw [if_neg c28] at H
           have Ej:decide (0 < dJ)=false:=decide_eq_false c28
           clear c28
           obtain rfl:=Option.some.inj H
           have Sg:wr.cell? ⟨fK,0,none⟩=some (.string aI):=(af cP.out 0).trans rfl
           have Sh:wr.cell? ⟨fK,1,none⟩=some (.string bh):=(af cP.out 1).trans rfl
           have Si:wr.cell? ⟨fK,2,none⟩=some (.bool bn):=(af cP.out 2).trans rfl
           have Sj:=aa cP.out 0
           have Sk:=aa cP.out 1
           have Sl:=aa cP.out 2
           have p7: 0≤(dJ:Int):=of_decide_eq_true cO
           have q7:dJ < (aI.size:Int):=of_decide_eq_true cO
           have ES:=ig aI dJ
           replace p7:=eq_true p7
           replace q7:=eq_true q7
           go_wp2
           go_ret
           exact ⟨cU,kU⟩
         ·rw [if_neg IJ] at H
          have TD:((bt aI dJ) == 45)=false:=beq_eq_false_iff_ne.mpr IJ
          have TE:((bt aI dJ) != 45)=true:=bne_iff_ne.mpr IJ
          obtain rfl:=Option.some.inj H
          have vN:wr.cell? ⟨fK,0,none⟩=some (.string aI):=(af cP.out 0).trans rfl
          have vO:wr.cell? ⟨fK,1,none⟩=some (.string bh):=(af cP.out 1).trans rfl
          have xP:wr.cell? ⟨fK,2,none⟩=some (.bool bn):=(af cP.out 2).trans rfl
          have vP:=aa cP.out 0
          have vQ:=aa cP.out 1
          have xQ:=aa cP.out 2
          have p7: 0≤(dJ:Int):=of_decide_eq_true cO
          have q7:dJ < (aI.size:Int):=of_decide_eq_true cO
          have ES:=ig aI dJ
          replace p7:=eq_true p7
          replace q7:=eq_true q7
          go_wp2
          go_ret
          exact ⟨cU,kU⟩
       ·rw [if_neg c24] at H
        have M5:decide (48≤(bt aI dJ))=false:=decide_eq_false c24
        clear c24
        by_cases IK:(bt aI dJ)=45
        ·rw [if_pos IK] at H
         have Nc:((bt aI dJ) == 45)=true:=beq_iff_eq.mpr IK
         have TF:((bt aI dJ) != 45)=false:=bne_eq_false_iff_eq.mpr IK
         clear IK
         by_cases Jh:dJ > 0
         ·rw [if_pos Jh] at H
          have SQ:decide (0 < dJ)=true:=decide_eq_true Jh
          clear Jh
          have H':=ah.mk H
          clear H
          have CN:wr.cell? ⟨fK,0,none⟩=some (.string aI):=(af cP.out 0).trans rfl
          have CO:wr.cell? ⟨fK,1,none⟩=some (.string bh):=(af cP.out 1).trans rfl
          have CP:wr.cell? ⟨fK,2,none⟩=some (.bool bn):=(af cP.out 2).trans rfl
          have CQ:=aa cP.out 0
          have CR:=aa cP.out 1
          have CS:=aa cP.out 2
          have p7: 0≤(dJ:Int):=of_decide_eq_true cO
          have q7:dJ < (aI.size:Int):=of_decide_eq_true cO
          have ES:=ig aI dJ
          replace p7:=eq_true p7
          replace q7:=eq_true q7
          go_wp2
          go_roundg k1
          case measure=>have:=wS.out;omega
          case rel=>exact ⟨(wrap64 (dJ + 1)),dL,H',⟨ko⟩,⟨vW⟩,⟨kU⟩⟩
         ·rw [if_neg Jh] at H
          have SQ:decide (0 < dJ)=false:=decide_eq_false Jh
          clear Jh
          obtain rfl:=Option.some.inj H
          have Cq:wr.cell? ⟨fK,0,none⟩=some (.string aI):=(af cP.out 0).trans rfl
          have Cr:wr.cell? ⟨fK,1,none⟩=some (.string bh):=(af cP.out 1).trans rfl
          have Cs:wr.cell? ⟨fK,2,none⟩=some (.bool bn):=(af cP.out 2).trans rfl
          have Ct:=aa cP.out 0
          have Cu:=aa cP.out 1
          have Cv:=aa cP.out 2
          have p7: 0≤(dJ:Int):=of_decide_eq_true cO
          have q7:dJ < (aI.size:Int):=of_decide_eq_true cO
          have ES:=ig aI dJ
          replace p7:=eq_true p7
          replace q7:=eq_true q7
          go_wp2
          go_ret
          exact ⟨cU,kU⟩
        ·rw [if_neg IK] at H
         have Nc:((bt aI dJ) == 45)=false:=beq_eq_false_iff_ne.mpr IK
         have TF:((bt aI dJ) != 45)=true:=bne_iff_ne.mpr IK
         obtain rfl:=Option.some.inj H
         have Cw:wr.cell? ⟨fK,0,none⟩=some (.string aI):=(af cP.out 0).trans rfl
         have Cx:wr.cell? ⟨fK,1,none⟩=some (.string bh):=(af cP.out 1).trans rfl
         have Cy:wr.cell? ⟨fK,2,none⟩=some (.bool bn):=(af cP.out 2).trans rfl
         have Cz:=aa cP.out 0
         have CC:=aa cP.out 1
         have CD:=aa cP.out 2
         have p7: 0≤(dJ:Int):=of_decide_eq_true cO
         have q7:dJ < (aI.size:Int):=of_decide_eq_true cO
         have ES:=ig aI dJ
         replace p7:=eq_true p7
         replace q7:=eq_true q7
         go_wp2
         go_ret
         exact ⟨cU,kU⟩
     ·rw [if_neg c6] at H
      exact absurd H bf
    ·rw [if_neg c5] at H
     exact absurd H bf
   ·rw [if_neg c4] at H
    have nP:decide (dJ < (aI.size:Int))=false:=decide_eq_false c4
    clear c4
    have H':=ah.mk H
    clear H
    have TG:wr.cell? ⟨fK,0,none⟩=some (.string aI):=(af cP.out 0).trans rfl
    have TH:wr.cell? ⟨fK,1,none⟩=some (.string bh):=(af cP.out 1).trans rfl
    have TI:wr.cell? ⟨fK,2,none⟩=some (.bool bn):=(af cP.out 2).trans rfl
    have TJ:=aa cP.out 0
    have TK:=aa cP.out 1
    have TL:=aa cP.out 2
    go_wp2
    go_loopg [44] k1 (fun kq v44 w'=>∃ (kK:Int),v44= .int .i64 kK∧ah (bN.l1 kq (bh.size:Int) kK aI bh bn=some r)∧ah (kq≤k1)∧ah (w'.heap[fK]? =some (.cells #[.string aI,.string bh,.bool bn] 58 (0,0)))∧ah (Below w.heap.size w w'))
    case atStart=>exact ⟨(0),dL,H',⟨Nat.le_refl _⟩,⟨vW⟩,⟨kU⟩⟩
    case round=>
     clear H'
     try clear c1
     try clear c2
     try clear p2
     try clear c3
     try clear c4
     try clear nP
     try clear c5
     try clear vZ
     try clear c6
     try clear oW
     try clear p6
     try clear p7
     try clear q7
     try clear ES
     try clear c8
     try clear Dy
     try clear c9
     try clear IM
     try clear c11
     try clear AY
     try clear c12
     try clear Eg
     try clear c13
     try clear c14
     try clear Np
     try clear Nq
     try clear c15
     try clear GW
     try clear c19
     try clear wF
     try clear El
     try clear c20
     try clear Jg
     try clear c24
     try clear M5
     try clear G5
     try clear zh
     try clear IJ
     try clear TD
     try clear TE
     try clear c28
     try clear Ej
     try clear IK
     try clear Nc
     try clear TF
     try clear Jh
     try clear SQ
     try clear LG
     try clear LH
     try clear LI
     try clear nJ
     try clear nK
     try clear qh
     try clear oa
     try clear oc
     try clear rJ
     try clear u9
     try clear vk
     try clear Cj
     try clear zV
     try clear zW
     try clear Cl
     try clear rL
     try clear rM
     try clear rN
     try clear zZ
     try clear z6
     try clear Cn
     try clear FM
     try clear FN
     try clear FO
     try clear Kr
     try clear Ks
     try clear Kt
     try clear Fq
     try clear Fu
     try clear Ky
     try clear Sg
     try clear Sh
     try clear Si
     try clear vN
     try clear vO
     try clear xP
     try clear CN
     try clear CO
     try clear CP
     try clear Cq
     try clear Cr
     try clear Cs
     try clear Cw
     try clear Cx
     try clear Cy
     try clear TG
     try clear TH
     try clear TI
     try clear wh
     try clear wj
     try clear LD
     try clear LJ
     try clear LK
     try clear LL
     try clear nL
     try clear nM
     try clear qi
     try clear og
     try clear om
     try clear rK
     try clear vo
     try clear vq
     try clear Ck
     try clear zX
     try clear zY
     try clear Cm
     try clear rO
     try clear rP
     try clear rQ
     try clear z7
     try clear z8
     try clear Co
     try clear FP
     try clear FQ
     try clear FR
     try clear Ku
     try clear Kv
     try clear Kw
     try clear Fv
     try clear Fw
     try clear Kz
     try clear Sj
     try clear Sk
     try clear Sl
     try clear vP
     try clear vQ
     try clear xQ
     try clear CQ
     try clear CR
     try clear CS
     try clear Ct
     try clear Cu
     try clear Cv
     try clear Cz
     try clear CC
     try clear CD
     try clear TJ
     try clear TK
     try clear TL
     try clear wk
     try clear wm
     try clear LF
     try clear p2
     try clear p7
     try clear q7
     obtain ⟨kK,rfl,HA,PT,cP,HB⟩:=hrel
     cases gk with
     |zero=>exact absurd HA.out (by simp [bN.l1])
     |succ k2=>
      have H:=HA.out
      clear HA
      simp only [bN.l1] at H
      by_cases MI:kK < (bh.size:Int)
      ·rw [if_pos MI] at H
       have XK:decide (kK < (bh.size:Int))=true:=decide_eq_true MI
       clear MI
       by_cases c39: 0≤kK
       ·rw [if_pos c39] at H
        have aqX:decide (0≤kK)=true:=decide_eq_true c39
        clear c39
        by_cases c40:kK < (bh.size:Int)
        ·rw [if_pos c40] at H
         have agc:decide (kK < (bh.size:Int))=true:=decide_eq_true c40
         clear c40
         by_cases XL:(bt bh kK) < 33
         ·rw [if_pos XL] at H
          have agd:decide ((bt bh kK) < 33)=true:=decide_eq_true XL
          clear XL
          obtain rfl:=Option.some.inj H
          have aks:wr.cell? ⟨fK,0,none⟩=some (.string aI):=(af cP.out 0).trans rfl
          have akt:wr.cell? ⟨fK,1,none⟩=some (.string bh):=(af cP.out 1).trans rfl
          have aku:wr.cell? ⟨fK,2,none⟩=some (.bool bn):=(af cP.out 2).trans rfl
          have akv:=aa cP.out 0
          have akw:=aa cP.out 1
          have akx:=aa cP.out 2
          have XM: 0≤(kK:Int):=of_decide_eq_true cO
          have XN:kK < (bh.size:Int):=of_decide_eq_true cO
          have adr:=ig bh kK
          replace XM:=eq_true XM
          replace XN:=eq_true XN
          go_wp2
          go_ret
          exact ⟨cU,kU⟩
         ·rw [if_neg XL] at H
          have agd:decide ((bt bh kK) < 33)=false:=decide_eq_false XL
          clear XL
          by_cases VV:(bt bh kK) > 126
          ·rw [if_pos VV] at H
           have acd:decide (126 < (bt bh kK))=true:=decide_eq_true VV
           clear VV
           obtain rfl:=Option.some.inj H
           have aau:wr.cell? ⟨fK,0,none⟩=some (.string aI):=(af cP.out 0).trans rfl
           have aav:wr.cell? ⟨fK,1,none⟩=some (.string bh):=(af cP.out 1).trans rfl
           have aaw:wr.cell? ⟨fK,2,none⟩=some (.bool bn):=(af cP.out 2).trans rfl
           have aax:=aa cP.out 0
           have aay:=aa cP.out 1
           have aaz:=aa cP.out 2
           have XM: 0≤(kK:Int):=of_decide_eq_true cO
           have XN:kK < (bh.size:Int):=of_decide_eq_true cO
           have adr:=ig bh kK
           replace XM:=eq_true XM
           replace XN:=eq_true XN
           go_wp2
           go_ret
           exact ⟨cU,kU⟩
          ·rw [if_neg VV] at H
           have acd:decide (126 < (bt bh kK))=false:=decide_eq_false VV
           clear VV
           by_cases c46:(bt bh kK)=61
           ·rw [if_pos c46] at H
            have age:((bt bh kK) == 61)=true:=beq_iff_eq.mpr c46
            have agf:((bt bh kK) != 61)=false:=bne_eq_false_iff_eq.mpr c46
            clear c46
            obtain rfl:=Option.some.inj H
            have aaM:wr.cell? ⟨fK,0,none⟩=some (.string aI):=(af cP.out 0).trans rfl
            have aaN:wr.cell? ⟨fK,1,none⟩=some (.string bh):=(af cP.out 1).trans rfl
            have aaO:wr.cell? ⟨fK,2,none⟩=some (.bool bn):=(af cP.out 2).trans rfl
            have aaP:=aa cP.out 0
            have aaQ:=aa cP.out 1
            have aaR:=aa cP.out 2
            have XM: 0≤(kK:Int):=of_decide_eq_true cO
            have XN:kK < (bh.size:Int):=of_decide_eq_true cO
            have adr:=ig bh kK
            replace XM:=eq_true XM
            replace XN:=eq_true XN
            go_wp2
            go_ret
            exact ⟨cU,kU⟩
           ·rw [if_neg c46] at H
            have age:((bt bh kK) == 61)=false:=beq_eq_false_iff_ne.mpr c46
            have agf:((bt bh kK) != 61)=true:=bne_iff_ne.mpr c46
            have H':=ah.mk H
            clear H
            have aaA:wr.cell? ⟨fK,0,none⟩=some (.string aI):=(af cP.out 0).trans rfl
            have aaB:wr.cell? ⟨fK,1,none⟩=some (.string bh):=(af cP.out 1).trans rfl
            have aaC:wr.cell? ⟨fK,2,none⟩=some (.bool bn):=(af cP.out 2).trans rfl
            have aaD:=aa cP.out 0
            have aaE:=aa cP.out 1
            have aaF:=aa cP.out 2
            have XM: 0≤(kK:Int):=of_decide_eq_true cO
            have XN:kK < (bh.size:Int):=of_decide_eq_true cO
            have adr:=ig bh kK
            replace XM:=eq_true XM
            replace XN:=eq_true XN
            go_wp2
            go_roundg k2
            case measure=>have:=wS.out;have:=PT.out;omega
            case rel=>exact ⟨(wrap64 (kK + 1)),dL,H',⟨by have:=wS.out;have:=PT.out;omega⟩,⟨vW⟩,⟨kU⟩⟩
        ·rw [if_neg c40] at H
         exact absurd H bf
       ·rw [if_neg c39] at H
        exact absurd H bf
      ·rw [if_neg MI] at H
       have XK:decide (kK < (bh.size:Int))=false:=decide_eq_false MI
       clear MI
       by_cases c49:aI.toList=([]:List UInt8)
       ·rw [if_pos c49] at H
        have agh:(aI.toList == ([]:List UInt8))=true:=beq_iff_eq.mpr c49
        have agi:(aI.toList != ([]:List UInt8))=false:=bne_eq_false_iff_eq.mpr c49
        clear c49
        obtain rfl:=Option.some.inj H
        have aaG:wr.cell? ⟨fK,0,none⟩=some (.string aI):=(af cP.out 0).trans rfl
        have aaH:wr.cell? ⟨fK,1,none⟩=some (.string bh):=(af cP.out 1).trans rfl
        have aaI:wr.cell? ⟨fK,2,none⟩=some (.bool bn):=(af cP.out 2).trans rfl
        have aaJ:=aa cP.out 0
        have aaK:=aa cP.out 1
        have aaL:=aa cP.out 2
        go_wp2
        go_ret
        exact ⟨cU,kU⟩
       ·rw [if_neg c49] at H
        have agh:(aI.toList == ([]:List UInt8))=false:=beq_eq_false_iff_ne.mpr c49
        have agi:(aI.toList != ([]:List UInt8))=true:=bne_iff_ne.mpr c49
        obtain rfl:=Option.some.inj H
        have aky:wr.cell? ⟨fK,0,none⟩=some (.string aI):=(af cP.out 0).trans rfl
        have akz:wr.cell? ⟨fK,1,none⟩=some (.string bh):=(af cP.out 1).trans rfl
        have akA:wr.cell? ⟨fK,2,none⟩=some (.bool bn):=(af cP.out 2).trans rfl
        have akB:=aa cP.out 0
        have akC:=aa cP.out 1
        have akD:=aa cP.out 2
        go_wp2
        go_ret
        exact ⟨by first|rfl|(simp [lW,lX];rw [show (bh.toList != ([]:List UInt8))= !bh.toList.isEmpty from by cases bh.toList<;>rfl];done)|(simp [lW,lX]<;>rfl)|(simp [*,lW,lX]<;>rfl),kU⟩
end Go.Proofs.YtokpnfljjjjikaaGreatDoor.n9
