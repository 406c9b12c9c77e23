import Derived.Test.YtokpnfljjjjikaaGreatDoorQCbx0
namespace Go.Proofs.YtokpnfljjjjikaaGreatDoor.nK
open Go.RowKit Go.Proofs.aj.bQ Go.Proofs.aj.fR Go.Proofs.aj.cM
attribute [local go_sem] iY iZ ku kA ig ij jc jd
set_option linter.unusedVariables false
set_option linter.unusedSimpArgs false
mutual
def bH.l0:Nat→Int→Int→ByteArray→ByteArray→Bool→Option (Bool)
 | 0,_,_,_,_,_ =>none
 |k + 1,x9,Ei,jK,lq,pE=>if Ei < x9 then (if 0≤Ei then (if Ei < (jK.size:Int) then (if (bt jK Ei)≥65 then (if (bt jK Ei)≤90 then (bH.l0 k x9 (wrap64 (Ei + 1)) jK lq pE) else (if (bt jK Ei)≥48 then (if (bt jK Ei)≤57 then (bH.l0 k x9 (wrap64 (Ei + 1)) jK lq pE) else (if (bt jK Ei)=45 then (if Ei > 0 then (bH.l0 k x9 (wrap64 (Ei + 1)) jK lq pE) else (some false)) else (some false))) else (if (bt jK Ei)=45 then (if Ei > 0 then (bH.l0 k x9 (wrap64 (Ei + 1)) jK lq pE) else (some false)) else (some false)))) else (if (bt jK Ei)≥48 then (if (bt jK Ei)≤57 then (bH.l0 k x9 (wrap64 (Ei + 1)) jK lq pE) else (if (bt jK Ei)=45 then (if Ei > 0 then (bH.l0 k x9 (wrap64 (Ei + 1)) jK lq pE) else (some false)) else (some false))) else (if (bt jK Ei)=45 then (if Ei > 0 then (bH.l0 k x9 (wrap64 (Ei + 1)) jK lq pE) else (some false)) else (some false)))) else (none)) else (none)) else (bH.l1 k (lq.size:Int) 0 jK lq pE)
def bH.l1:Nat→Int→Int→ByteArray→ByteArray→Bool→Option (Bool)
 | 0,_,_,_,_,_ =>none
 |k + 1,x43,Yw,jK,lq,pE=>if Yw < x43 then (if 0≤Yw then (if Yw < (lq.size:Int) then (if (bt lq Yw) < 33 then (some false) else (if (bt lq Yw) > 126 then (some false) else (if (bt lq Yw)=61 then (some false) else (bH.l1 k x43 (wrap64 (Yw + 1)) jK lq pE)))) else (none)) else (none)) else (if jK.toList=([]:List UInt8) then (some false) else (some (pE == (lq.toList != ([]:List UInt8)))))
end
def bH.f (k:Nat) (aI:ByteArray) (aZ:ByteArray) (bp:Bool):Option (Bool):=bH.l0 k (aI.size:Int) 0 aI aZ bp
theorem bH.fJ:∀ k,(∀ y0 y1 y2 y3 y4,cH (bH.l0 k y0 y1 y2 y3 y4) (bH.l0 (k + 1) y0 y1 y2 y3 y4))∧(∀ y0 y1 y2 y3 y4,cH (bH.l1 k y0 y1 y2 y3 y4) (bH.l1 (k + 1) y0 y1 y2 y3 y4))
 | 0=>⟨fun _ _ _ _ _ r h=>by simp [bH.l0] at h,fun _ _ _ _ _ r h=>by simp [bH.l1] at h⟩
 |k + 1=>by
  obtain ⟨nP,ih1⟩:=bH.fJ k
  refine ⟨?_,?_⟩
  ·intro y0 y1 y2 y3 y4
   unfold bH.l0
   repeat' first
   |(with_reducible exact nP _ _ _ _ _)
   |(with_reducible exact ih1 _ _ _ _ _)
   |(with_reducible exact cH.refl _)
   |(with_reducible exact cH.none _)
   |(with_reducible refine cH.ite ?_ ?_)
   |(with_reducible refine cH.bind ?_ (fun _ =>?_))
   |refine cH.ite ?_ ?_
   |refine cH.bind ?_ (fun _ =>?_)
  ·intro y0 y1 y2 y3 y4
   unfold bH.l1
   repeat' first
   |(with_reducible exact nP _ _ _ _ _)
   |(with_reducible exact ih1 _ _ _ _ _)
   |(with_reducible exact cH.refl _)
   |(with_reducible exact cH.none _)
   |(with_reducible refine cH.ite ?_ ?_)
   |(with_reducible refine cH.bind ?_ (fun _ =>?_))
   |refine cH.ite ?_ ?_
   |refine cH.bind ?_ (fun _ =>?_)
theorem bH.mono:∀ a0 a1 a2 k,cH (bH.f k a0 a1 a2) (bH.f (k + 1) a0 a1 a2):=by
 intro a0 a1 a2 k
 obtain ⟨nP,ih1⟩:=bH.fJ k
 unfold bH.f
 repeat' first
  |(with_reducible exact nP _ _ _ _ _)
  |(with_reducible exact ih1 _ _ _ _ _)
  |(with_reducible exact cH.refl _)
  |(with_reducible exact cH.none _)
  |(with_reducible refine cH.ite ?_ ?_)
  |(with_reducible refine cH.bind ?_ (fun _ =>?_))
  |refine cH.ite ?_ ?_
  |refine cH.bind ?_ (fun _ =>?_)
set_option maxHeartbeats 8000000 in
set_option maxRecDepth 100000 in
theorem bH.calls (k:Nat) (aI:ByteArray) (aZ:ByteArray) (bp:Bool) (r:Bool) (w:World) (h:bH.f k aI aZ bp=some r):
 Calls Tryz.prog 138 #[.agg #[.string aI,.string aZ,.bool bp]] w fun e w'=>e= .returned (.bool r)∧Below w.heap.size w w':=by
 have UM:=Tryz.underlying58
 have HB:=ah.mk (Below.refl w.heap.size w)
 have H:(bH.l0 k (aI.size:Int) 0 aI aZ bp)=some r:=h
 clear h
 have H':=ah.mk H
 clear H
 go_enter Tryz.func138,Tryz.ntmps138
 go_wp2_with (first|((with_reducible refine cQ (N:=1) rfl ?_);refine cE ?hg (N:=1) ?hd (cs:=#[.string aI,.string aZ,.bool bp]) (t:=58) ?hr ?_;(case hd=>rfl);(case hg=>rfl);(case hr=>first|(go_simp;done)|(go_simp;rfl));intro fo hg w2 cY hb;have bL:=ah.mk (aC cw hb);have bS:=ah.mk (cY);have cG:=ah.mk ((dQ:w.heap.size≤fo));have dA:=ah.mk ((dQ:w.heap.size≤fo));clear HB;have HB:=bL;have cI:=bS;have akr:=cG;have acz:=dA;clear bL bS cG dA;clear hb cY hg;have tS:w2.cell? ⟨fo,0,none⟩=some (.string aI):=(af cI.out 0).trans rfl;have tT:w2.cell? ⟨fo,1,none⟩=some (.string aZ):=(af cI.out 1).trans rfl;have JY:w2.cell? ⟨fo,2,none⟩=some (.bool bp):=(af cI.out 2).trans rfl;have tU:=aa cI.out 0;have tV:=aa cI.out 1;have JZ:=aa cI.out 2))
 go_loopg [10] k (fun kq v10 w'=>∃ (dz:Int),v10= .int .i64 dz∧ah (bH.l0 kq (aI.size:Int) dz aI aZ bp=some r)∧ah (kq≤k)∧ah (w'.heap[fo]? =some (.cells #[.string aI,.string aZ,.bool bp] 58 (0,0)))∧ah (Below w.heap.size w w'))
 case atStart=>exact ⟨(0),dG,H',⟨Nat.le_refl _⟩,⟨tP⟩,⟨kE⟩⟩
 case round=>
  clear H'
  try clear c1
  try clear p2
  try clear tS
  try clear tT
  try clear JY
  try clear tU
  try clear tV
  try clear JZ
  obtain ⟨dz,rfl,HA,uz,cI,HB⟩:=hrel
  cases gk with
  |zero=>exact absurd HA.out (by simp [bH.l0])
  |succ k1=>
   have H:=HA.out
   clear HA
   simp only [bH.l0] at H
   by_cases c4:dz < (aI.size:Int)
   ·rw [if_pos c4] at H
    have oC:decide (dz < (aI.size:Int))=true:=decide_eq_true c4
    clear c4
    by_cases c5: 0≤dz
    ·rw [if_pos c5] at H
     have tR:decide (0≤dz)=true:=decide_eq_true c5
     clear c5
     by_cases c6:dz < (aI.size:Int)
     ·rw [if_pos c6] at H
      have pP:decide (dz < (aI.size:Int))=true:=decide_eq_true c6
      clear c6
      by_cases c8:(bt aI dz)≥65
      ·rw [if_pos c8] at H
       have JM:decide (65≤(bt aI dz))=true:=decide_eq_true c8
       clear c8
       by_cases c9:(bt aI dz)≤90
       ·rw [if_pos c9] at H
        have SI:decide ((bt aI dz)≤90)=true:=decide_eq_true c9
        clear c9
        have H':=ah.mk H
        clear H
        have J0:wr.cell? ⟨fo,0,none⟩=some (.string aI):=(af cI.out 0).trans rfl
        have J1:wr.cell? ⟨fo,1,none⟩=some (.string aZ):=(af cI.out 1).trans rfl
        have J2:wr.cell? ⟨fo,2,none⟩=some (.bool bp):=(af cI.out 2).trans rfl
        have J3:=aa cI.out 0
        have J4:=aa cI.out 1
        have J5:=aa cI.out 2
        have p7: 0≤(dz:Int):=of_decide_eq_true cL
        have q7:dz < (aI.size:Int):=of_decide_eq_true cL
        have Dk:=gI aI dz
        replace p7:=eq_true p7
        replace q7:=eq_true q7
        go_wp2
        go_roundg k1
        case measure=>have:=uz.out;omega
        case rel=>exact ⟨(wrap64 (dz + 1)),dG,H',⟨kX⟩,⟨tP⟩,⟨kE⟩⟩
       ·rw [if_neg c9] at H
        have SI:decide ((bt aI dz)≤90)=false:=decide_eq_false c9
        clear c9
        by_cases c11:(bt aI dz)≥48
        ·rw [if_pos c11] at H
         have zg:decide (48≤(bt aI dz))=true:=decide_eq_true c11
         clear c11
         by_cases c12:(bt aI dz)≤57
         ·rw [if_pos c12] at H
          have wQ:decide ((bt aI dz)≤57)=true:=decide_eq_true c12
          clear c12
          have H':=ah.mk H
          clear H
          have qi:wr.cell? ⟨fo,0,none⟩=some (.string aI):=(af cI.out 0).trans rfl
          have qj:wr.cell? ⟨fo,1,none⟩=some (.string aZ):=(af cI.out 1).trans rfl
          have uJ:wr.cell? ⟨fo,2,none⟩=some (.bool bp):=(af cI.out 2).trans rfl
          have qm:=aa cI.out 0
          have qo:=aa cI.out 1
          have uK:=aa cI.out 2
          have p7: 0≤(dz:Int):=of_decide_eq_true cL
          have q7:dz < (aI.size:Int):=of_decide_eq_true cL
          have Dk:=gI aI dz
          replace p7:=eq_true p7
          replace q7:=eq_true q7
          go_wp2
          go_roundg k1
          case measure=>have:=uz.out;omega
          case rel=>exact ⟨(wrap64 (dz + 1)),dG,H',⟨kX⟩,⟨tP⟩,⟨kE⟩⟩
         ·rw [if_neg c12] at H
          have wQ:decide ((bt aI dz)≤57)=false:=decide_eq_false c12
          clear c12
          by_cases c14:(bt aI dz)=45
          ·rw [if_pos c14] at H
           have LJ:((bt aI dz) == 45)=true:=beq_iff_eq.mpr c14
           have LK:((bt aI dz) != 45)=false:=bne_eq_false_iff_eq.mpr c14
           clear c14
           by_cases c15:dz > 0
           ·rw [if_pos c15] at H
            have E0:decide (0 < dz)=true:=decide_eq_true c15
            clear c15
            have H':=ah.mk H
            clear H
            have nu:wr.cell? ⟨fo,0,none⟩=some (.string aI):=(af cI.out 0).trans rfl
            have nv:wr.cell? ⟨fo,1,none⟩=some (.string aZ):=(af cI.out 1).trans rfl
            have qp:wr.cell? ⟨fo,2,none⟩=some (.bool bp):=(af cI.out 2).trans rfl
            have ny:=aa cI.out 0
            have nA:=aa cI.out 1
            have qq:=aa cI.out 2
            have p7: 0≤(dz:Int):=of_decide_eq_true cL
            have q7:dz < (aI.size:Int):=of_decide_eq_true cL
            have Dk:=gI aI dz
            replace p7:=eq_true p7
            replace q7:=eq_true q7
            go_wp2
            go_roundg k1
            case measure=>have:=uz.out;omega
            case rel=>exact ⟨(wrap64 (dz + 1)),dG,H',⟨kX⟩,⟨tP⟩,⟨kE⟩⟩
           ·rw [if_neg c15] at H
            have E0:decide (0 < dz)=false:=decide_eq_false c15
            clear c15
            obtain rfl:=Option.some.inj H
            have sH:wr.cell? ⟨fo,0,none⟩=some (.string aI):=(af cI.out 0).trans rfl
            have sI:wr.cell? ⟨fo,1,none⟩=some (.string aZ):=(af cI.out 1).trans rfl
            have Aq:wr.cell? ⟨fo,2,none⟩=some (.bool bp):=(af cI.out 2).trans rfl
            have sJ:=aa cI.out 0
            have sK:=aa cI.out 1
            have Ar:=aa cI.out 2
            have p7: 0≤(dz:Int):=of_decide_eq_true cL
            have q7:dz < (aI.size:Int):=of_decide_eq_true cL
            have Dk:=gI aI dz
            replace p7:=eq_true p7
            replace q7:=eq_true q7
            go_wp2
            go_ret
            exact ⟨cO,kE⟩
          ·rw [if_neg c14] at H
           have LJ:((bt aI dz) == 45)=false:=beq_eq_false_iff_ne.mpr c14
           have LK:((bt aI dz) != 45)=true:=bne_iff_ne.mpr c14
           obtain rfl:=Option.some.inj H
           have xS:wr.cell? ⟨fo,0,none⟩=some (.string aI):=(af cI.out 0).trans rfl
           have xU:wr.cell? ⟨fo,1,none⟩=some (.string aZ):=(af cI.out 1).trans rfl
           have Au:wr.cell? ⟨fo,2,none⟩=some (.bool bp):=(af cI.out 2).trans rfl
           have xV:=aa cI.out 0
           have xW:=aa cI.out 1
           have Av:=aa cI.out 2
           have p7: 0≤(dz:Int):=of_decide_eq_true cL
           have q7:dz < (aI.size:Int):=of_decide_eq_true cL
           have Dk:=gI aI dz
           replace p7:=eq_true p7
           replace q7:=eq_true q7
           go_wp2
           go_ret
           exact ⟨cO,kE⟩
        ·rw [if_neg c11] at H
         have zg:decide (48≤(bt aI dz))=false:=decide_eq_false c11
         clear c11
         by_cases c19:(bt aI dz)=45
         ·rw [if_pos c19] at H
          have RI:((bt aI dz) == 45)=true:=beq_iff_eq.mpr c19
          have Vo:((bt aI dz) != 45)=false:=bne_eq_false_iff_eq.mpr c19
          clear c19
          by_cases c20:dz > 0
          ·rw [if_pos c20] at H
           have GL:decide (0 < dz)=true:=decide_eq_true c20
           clear c20
           have H':=ah.mk H
           clear H
           have xX:wr.cell? ⟨fo,0,none⟩=some (.string aI):=(af cI.out 0).trans rfl
           have xY:wr.cell? ⟨fo,1,none⟩=some (.string aZ):=(af cI.out 1).trans rfl
           have xZ:wr.cell? ⟨fo,2,none⟩=some (.bool bp):=(af cI.out 2).trans rfl
           have ya:=aa cI.out 0
           have yc:=aa cI.out 1
           have yf:=aa cI.out 2
           have p7: 0≤(dz:Int):=of_decide_eq_true cL
           have q7:dz < (aI.size:Int):=of_decide_eq_true cL
           have Dk:=gI aI dz
           replace p7:=eq_true p7
           replace q7:=eq_true q7
           go_wp2
           go_roundg k1
           case measure=>have:=uz.out;omega
           case rel=>exact ⟨(wrap64 (dz + 1)),dG,H',⟨kX⟩,⟨tP⟩,⟨kE⟩⟩
          ·rw [if_neg c20] at H
           have GL:decide (0 < dz)=false:=decide_eq_false c20
           clear c20
           obtain rfl:=Option.some.inj H
           have yg:wr.cell? ⟨fo,0,none⟩=some (.string aI):=(af cI.out 0).trans rfl
           have yh:wr.cell? ⟨fo,1,none⟩=some (.string aZ):=(af cI.out 1).trans rfl
           have Aw:wr.cell? ⟨fo,2,none⟩=some (.bool bp):=(af cI.out 2).trans rfl
           have yj:=aa cI.out 0
           have yl:=aa cI.out 1
           have Ax:=aa cI.out 2
           have p7: 0≤(dz:Int):=of_decide_eq_true cL
           have q7:dz < (aI.size:Int):=of_decide_eq_true cL
           have Dk:=gI aI dz
           replace p7:=eq_true p7
           replace q7:=eq_true q7
           go_wp2
           go_ret
           exact ⟨cO,kE⟩
         ·rw [if_neg c19] at H
          have RI:((bt aI dz) == 45)=false:=beq_eq_false_iff_ne.mpr c19
          have Vo:((bt aI dz) != 45)=true:=bne_iff_ne.mpr c19
          obtain rfl:=Option.some.inj H
          have Ej:wr.cell? ⟨fo,0,none⟩=some (.string aI):=(af cI.out 0).trans rfl
          have Ek:wr.cell? ⟨fo,1,none⟩=some (.string aZ):=(af cI.out 1).trans rfl
          have El:wr.cell? ⟨fo,2,none⟩=some (.bool bp):=(af cI.out 2).trans rfl
          have Em:=aa cI.out 0
          have En:=aa cI.out 1
          have Eo:=aa cI.out 2
          have p7: 0≤(dz:Int):=of_decide_eq_true cL
          have q7:dz < (aI.size:Int):=of_decide_eq_true cL
          have Dk:=gI aI dz
          replace p7:=eq_true p7
          replace q7:=eq_true q7
          go_wp2
          go_ret
          exact ⟨cO,kE⟩
      ·rw [if_neg c8] at H
       have JM:decide (65≤(bt aI dz))=false:=decide_eq_false c8
       clear c8
       by_cases c24:(bt aI dz)≥48
       ·rw [if_pos c24] at H
        have LS:decide (48≤(bt aI dz))=true:=decide_eq_true c24
        clear c24
        by_cases SQ:(bt aI dz)≤57
        ·rw [if_pos SQ] at H
         have Vp:decide ((bt aI dz)≤57)=true:=decide_eq_true SQ
         clear SQ
         have H':=ah.mk H
         clear H
         have IM:wr.cell? ⟨fo,0,none⟩=some (.string aI):=(af cI.out 0).trans rfl
         have IP:wr.cell? ⟨fo,1,none⟩=some (.string aZ):=(af cI.out 1).trans rfl
         have IQ:wr.cell? ⟨fo,2,none⟩=some (.bool bp):=(af cI.out 2).trans rfl
         have IU:=aa cI.out 0
         have IV:=aa cI.out 1
         have IW:=aa cI.out 2
         have p7: 0≤(dz:Int):=of_decide_eq_true cL
         have q7:dz < (aI.size:Int):=of_decide_eq_true cL
         have Dk:=gI aI dz
         replace p7:=eq_true p7
         replace q7:=eq_true q7
         go_wp2
         go_roundg k1
         case measure=>have:=uz.out;omega
         case rel=>exact ⟨(wrap64 (dz + 1)),dG,H',⟨kX⟩,⟨tP⟩,⟨kE⟩⟩
        ·rw [if_neg SQ] at H
         have Vp:decide ((bt aI dz)≤57)=false:=decide_eq_false SQ
         clear SQ
         by_cases F9:(bt aI dz)=45
         ·rw [if_pos F9] at H
          have Mq:((bt aI dz) == 45)=true:=beq_iff_eq.mpr F9
          have ZZ:((bt aI dz) != 45)=false:=bne_eq_false_iff_eq.mpr F9
          clear F9
          by_cases c28:dz > 0
          ·rw [if_pos c28] at H
           have GQ:decide (0 < dz)=true:=decide_eq_true c28
           clear c28
           have H':=ah.mk H
           clear H
           have xK:wr.cell? ⟨fo,0,none⟩=some (.string aI):=(af cI.out 0).trans rfl
           have xL:wr.cell? ⟨fo,1,none⟩=some (.string aZ):=(af cI.out 1).trans rfl
           have Ah:wr.cell? ⟨fo,2,none⟩=some (.bool bp):=(af cI.out 2).trans rfl
           have xM:=aa cI.out 0
           have xN:=aa cI.out 1
           have Ai:=aa cI.out 2
           have p7: 0≤(dz:Int):=of_decide_eq_true cL
           have q7:dz < (aI.size:Int):=of_decide_eq_true cL
           have Dk:=gI aI dz
           replace p7:=eq_true p7
           replace q7:=eq_true q7
           go_wp2
           go_roundg k1
           case measure=>have:=uz.out;omega
           case rel=>exact ⟨(wrap64 (dz + 1)),dG,H',⟨kX⟩,⟨tP⟩,⟨kE⟩⟩
          ·rw [if_neg c28] at H
           have GQ:decide (0 < dz)=false:=decide_eq_false c28
           clear c28
           obtain rfl:=Option.some.inj H
           have DR:wr.cell? ⟨fo,0,none⟩=some (.string aI):=(af cI.out 0).trans rfl
           have DT:wr.cell? ⟨fo,1,none⟩=some (.string aZ):=(af cI.out 1).trans rfl
           have DU:wr.cell? ⟨fo,2,none⟩=some (.bool bp):=(af cI.out 2).trans rfl
           have DV:=aa cI.out 0
           have DW:=aa cI.out 1
           have DX:=aa cI.out 2
           have p7: 0≤(dz:Int):=of_decide_eq_true cL
           have q7:dz < (aI.size:Int):=of_decide_eq_true cL
           have Dk:=gI aI dz
           replace p7:=eq_true p7
           replace q7:=eq_true q7
           go_wp2
           go_ret
           exact ⟨cO,kE⟩
         ·rw [if_neg F9] at H
          have Mq:((bt aI dz) == 45)=false:=beq_eq_false_iff_ne.mpr F9
          have ZZ:((bt aI dz) != 45)=true:=bne_iff_ne.mpr F9
          obtain rfl:=Option.some.inj H
          have yH:wr.cell? ⟨fo,0,none⟩=some (.string aI):=(af cI.out 0).trans rfl
          have yI:wr.cell? ⟨fo,1,none⟩=some (.string aZ):=(af cI.out 1).trans rfl
          have Bf:wr.cell? ⟨fo,2,none⟩=some (.bool bp):=(af cI.out 2).trans rfl
          have yJ:=aa cI.out 0
          have yK:=aa cI.out 1
          have Bg:=aa cI.out 2
          have p7: 0≤(dz:Int):=of_decide_eq_true cL
          have q7:dz < (aI.size:Int):=of_decide_eq_true cL
          have Dk:=gI aI dz
          replace p7:=eq_true p7
          replace q7:=eq_true q7
          go_wp2
          go_ret
          exact ⟨cO,kE⟩
       ·rw [if_neg c24] at H
        have LS:decide (48≤(bt aI dz))=false:=decide_eq_false c24
        clear c24
        by_cases BX:(bt aI dz)=45
        ·rw [if_pos BX] at H
         have GN:((bt aI dz) == 45)=true:=beq_iff_eq.mpr BX
         have Mr:((bt aI dz) != 45)=false:=bne_eq_false_iff_eq.mpr BX
         clear BX
         by_cases Dj:dz > 0
         ·rw [if_pos Dj] at H
          have L1:decide (0 < dz)=true:=decide_eq_true Dj
          clear Dj
          have H':=ah.mk H
          clear H
          have J6:wr.cell? ⟨fo,0,none⟩=some (.string aI):=(af cI.out 0).trans rfl
          have J7:wr.cell? ⟨fo,1,none⟩=some (.string aZ):=(af cI.out 1).trans rfl
          have J8:wr.cell? ⟨fo,2,none⟩=some (.bool bp):=(af cI.out 2).trans rfl
          have J9:=aa cI.out 0
          have Ka:=aa cI.out 1
          have Kb:=aa cI.out 2
          have p7: 0≤(dz:Int):=of_decide_eq_true cL
          have q7:dz < (aI.size:Int):=of_decide_eq_true cL
          have Dk:=gI aI dz
          replace p7:=eq_true p7
          replace q7:=eq_true q7
          go_wp2
          go_roundg k1
          case measure=>have:=uz.out;omega
          case rel=>exact ⟨(wrap64 (dz + 1)),dG,H',⟨kX⟩,⟨tP⟩,⟨kE⟩⟩
         ·rw [if_neg Dj] at H
          have L1:decide (0 < dz)=false:=decide_eq_false Dj
          clear Dj
          obtain rfl:=Option.some.inj H
          have AO:wr.cell? ⟨fo,0,none⟩=some (.string aI):=(af cI.out 0).trans rfl
          have AP:wr.cell? ⟨fo,1,none⟩=some (.string aZ):=(af cI.out 1).trans rfl
          have AQ:wr.cell? ⟨fo,2,none⟩=some (.bool bp):=(af cI.out 2).trans rfl
          have AR:=aa cI.out 0
          have AU:=aa cI.out 1
          have AV:=aa cI.out 2
          have p7: 0≤(dz:Int):=of_decide_eq_true cL
          have q7:dz < (aI.size:Int):=of_decide_eq_true cL
          have Dk:=gI aI dz
          replace p7:=eq_true p7
          replace q7:=eq_true q7
          go_wp2
          go_ret
          exact ⟨cO,kE⟩
        ·rw [if_neg BX] at H
         have GN:((bt aI dz) == 45)=false:=beq_eq_false_iff_ne.mpr BX
         have Mr:((bt aI dz) != 45)=true:=bne_iff_ne.mpr BX
         obtain rfl:=Option.some.inj H
         have AW:wr.cell? ⟨fo,0,none⟩=some (.string aI):=(af cI.out 0).trans rfl
         have AX:wr.cell? ⟨fo,1,none⟩=some (.string aZ):=(af cI.out 1).trans rfl
         have AY:wr.cell? ⟨fo,2,none⟩=some (.bool bp):=(af cI.out 2).trans rfl
         have AZ:=aa cI.out 0
         have Ba:=aa cI.out 1
         have Bb:=aa cI.out 2
         have p7: 0≤(dz:Int):=of_decide_eq_true cL
         have q7:dz < (aI.size:Int):=of_decide_eq_true cL
         have Dk:=gI aI dz
         replace p7:=eq_true p7
         replace q7:=eq_true q7
         go_wp2
         go_ret
         exact ⟨cO,kE⟩
     ·rw [if_neg c6] at H
      exact absurd H aV
    ·rw [if_neg c5] at H
     exact absurd H aV
   ·rw [if_neg c4] at H
    have oC:decide (dz < (aI.size:Int))=false:=decide_eq_false c4
    clear c4
    have H':=ah.mk H
    clear H
    have Ke:wr.cell? ⟨fo,0,none⟩=some (.string aI):=(af cI.out 0).trans rfl
    have Kf:wr.cell? ⟨fo,1,none⟩=some (.string aZ):=(af cI.out 1).trans rfl
    have Kg:wr.cell? ⟨fo,2,none⟩=some (.bool bp):=(af cI.out 2).trans rfl
    have Kh:=aa cI.out 0
    have Ki:=aa cI.out 1
    have Kj:=aa cI.out 2
    go_wp2
    go_loopg [44] k1 (fun kq v44 w'=>∃ (j4:Int),v44= .int .i64 j4∧ah (bH.l1 kq (aZ.size:Int) j4 aI aZ bp=some r)∧ah (kq≤k1)∧ah (w'.heap[fo]? =some (.cells #[.string aI,.string aZ,.bool bp] 58 (0,0)))∧ah (Below w.heap.size w w'))
    case atStart=>exact ⟨(0),dG,H',⟨Nat.le_refl _⟩,⟨tP⟩,⟨kE⟩⟩
    case round=>
     clear H'
     try clear c1
     try clear c2
     try clear p2
     try clear c3
     try clear c4
     try clear oC
     try clear c5
     try clear tR
     try clear c6
     try clear pP
     try clear p6
     try clear p7
     try clear q7
     try clear Dk
     try clear c8
     try clear JM
     try clear c9
     try clear SI
     try clear c11
     try clear zg
     try clear c12
     try clear wQ
     try clear c13
     try clear c14
     try clear LJ
     try clear LK
     try clear c15
     try clear E0
     try clear c19
     try clear RI
     try clear Vo
     try clear c20
     try clear GL
     try clear c24
     try clear LS
     try clear SQ
     try clear Vp
     try clear F9
     try clear Mq
     try clear ZZ
     try clear c28
     try clear GQ
     try clear BX
     try clear GN
     try clear Mr
     try clear Dj
     try clear L1
     try clear J0
     try clear J1
     try clear J2
     try clear qi
     try clear qj
     try clear uJ
     try clear nu
     try clear nv
     try clear qp
     try clear sH
     try clear sI
     try clear Aq
     try clear xS
     try clear xU
     try clear Au
     try clear xX
     try clear xY
     try clear xZ
     try clear yg
     try clear yh
     try clear Aw
     try clear Ej
     try clear Ek
     try clear El
     try clear IM
     try clear IP
     try clear IQ
     try clear xK
     try clear xL
     try clear Ah
     try clear DR
     try clear DT
     try clear DU
     try clear yH
     try clear yI
     try clear Bf
     try clear J6
     try clear J7
     try clear J8
     try clear AO
     try clear AP
     try clear AQ
     try clear AW
     try clear AX
     try clear AY
     try clear Ke
     try clear Kf
     try clear Kg
     try clear tS
     try clear tT
     try clear JY
     try clear J3
     try clear J4
     try clear J5
     try clear qm
     try clear qo
     try clear uK
     try clear ny
     try clear nA
     try clear qq
     try clear sJ
     try clear sK
     try clear Ar
     try clear xV
     try clear xW
     try clear Av
     try clear ya
     try clear yc
     try clear yf
     try clear yj
     try clear yl
     try clear Ax
     try clear Em
     try clear En
     try clear Eo
     try clear IU
     try clear IV
     try clear IW
     try clear xM
     try clear xN
     try clear Ai
     try clear DV
     try clear DW
     try clear DX
     try clear yJ
     try clear yK
     try clear Bg
     try clear J9
     try clear Ka
     try clear Kb
     try clear AR
     try clear AU
     try clear AV
     try clear AZ
     try clear Ba
     try clear Bb
     try clear Kh
     try clear Ki
     try clear Kj
     try clear tU
     try clear tV
     try clear JZ
     try clear p2
     try clear p7
     try clear q7
     obtain ⟨j4,rfl,HA,Oe,cI,HB⟩:=hrel
     cases gk with
     |zero=>exact absurd HA.out (by simp [bH.l1])
     |succ k2=>
      have H:=HA.out
      clear HA
      simp only [bH.l1] at H
      by_cases TU:j4 < (aZ.size:Int)
      ·rw [if_pos TU] at H
       have Z0:decide (j4 < (aZ.size:Int))=true:=decide_eq_true TU
       clear TU
       by_cases c39: 0≤j4
       ·rw [if_pos c39] at H
        have aks:decide (0≤j4)=true:=decide_eq_true c39
        clear c39
        by_cases c40:j4 < (aZ.size:Int)
        ·rw [if_pos c40] at H
         have akt:decide (j4 < (aZ.size:Int))=true:=decide_eq_true c40
         clear c40
         by_cases TV:(bt aZ j4) < 33
         ·rw [if_pos TV] at H
          have Z1:decide ((bt aZ j4) < 33)=true:=decide_eq_true TV
          clear TV
          obtain rfl:=Option.some.inj H
          have afS:wr.cell? ⟨fo,0,none⟩=some (.string aI):=(af cI.out 0).trans rfl
          have afT:wr.cell? ⟨fo,1,none⟩=some (.string aZ):=(af cI.out 1).trans rfl
          have afU:wr.cell? ⟨fo,2,none⟩=some (.bool bp):=(af cI.out 2).trans rfl
          have afV:=aa cI.out 0
          have afW:=aa cI.out 1
          have afX:=aa cI.out 2
          have Vq: 0≤(j4:Int):=of_decide_eq_true cL
          have Vr:j4 < (aZ.size:Int):=of_decide_eq_true cL
          have aaY:=gI aZ j4
          replace Vq:=eq_true Vq
          replace Vr:=eq_true Vr
          go_wp2
          go_ret
          exact ⟨cO,kE⟩
         ·rw [if_neg TV] at H
          have Z1:decide ((bt aZ j4) < 33)=false:=decide_eq_false TV
          clear TV
          by_cases Vs:(bt aZ j4) > 126
          ·rw [if_pos Vs] at H
           have adO:decide (126 < (bt aZ j4))=true:=decide_eq_true Vs
           clear Vs
           obtain rfl:=Option.some.inj H
           have Yd:wr.cell? ⟨fo,0,none⟩=some (.string aI):=(af cI.out 0).trans rfl
           have Ye:wr.cell? ⟨fo,1,none⟩=some (.string aZ):=(af cI.out 1).trans rfl
           have Yf:wr.cell? ⟨fo,2,none⟩=some (.bool bp):=(af cI.out 2).trans rfl
           have Yg:=aa cI.out 0
           have Yh:=aa cI.out 1
           have Yi:=aa cI.out 2
           have Vq: 0≤(j4:Int):=of_decide_eq_true cL
           have Vr:j4 < (aZ.size:Int):=of_decide_eq_true cL
           have aaY:=gI aZ j4
           replace Vq:=eq_true Vq
           replace Vr:=eq_true Vr
           go_wp2
           go_ret
           exact ⟨cO,kE⟩
          ·rw [if_neg Vs] at H
           have adO:decide (126 < (bt aZ j4))=false:=decide_eq_false Vs
           clear Vs
           by_cases c46:(bt aZ j4)=61
           ·rw [if_pos c46] at H
            have adP:((bt aZ j4) == 61)=true:=beq_iff_eq.mpr c46
            have adQ:((bt aZ j4) != 61)=false:=bne_eq_false_iff_eq.mpr c46
            clear c46
            obtain rfl:=Option.some.inj H
            have afY:wr.cell? ⟨fo,0,none⟩=some (.string aI):=(af cI.out 0).trans rfl
            have afZ:wr.cell? ⟨fo,1,none⟩=some (.string aZ):=(af cI.out 1).trans rfl
            have af0:wr.cell? ⟨fo,2,none⟩=some (.bool bp):=(af cI.out 2).trans rfl
            have af1:=aa cI.out 0
            have af2:=aa cI.out 1
            have af3:=aa cI.out 2
            have Vq: 0≤(j4:Int):=of_decide_eq_true cL
            have Vr:j4 < (aZ.size:Int):=of_decide_eq_true cL
            have aaY:=gI aZ j4
            replace Vq:=eq_true Vq
            replace Vr:=eq_true Vr
            go_wp2
            go_ret
            exact ⟨cO,kE⟩
           ·rw [if_neg c46] at H
            have adP:((bt aZ j4) == 61)=false:=beq_eq_false_iff_ne.mpr c46
            have adQ:((bt aZ j4) != 61)=true:=bne_iff_ne.mpr c46
            have H':=ah.mk H
            clear H
            have Yj:wr.cell? ⟨fo,0,none⟩=some (.string aI):=(af cI.out 0).trans rfl
            have Yk:wr.cell? ⟨fo,1,none⟩=some (.string aZ):=(af cI.out 1).trans rfl
            have Yl:wr.cell? ⟨fo,2,none⟩=some (.bool bp):=(af cI.out 2).trans rfl
            have Ym:=aa cI.out 0
            have Yn:=aa cI.out 1
            have Yo:=aa cI.out 2
            have Vq: 0≤(j4:Int):=of_decide_eq_true cL
            have Vr:j4 < (aZ.size:Int):=of_decide_eq_true cL
            have aaY:=gI aZ j4
            replace Vq:=eq_true Vq
            replace Vr:=eq_true Vr
            go_wp2
            go_roundg k2
            case measure=>have:=uz.out;have:=Oe.out;omega
            case rel=>exact ⟨(wrap64 (j4 + 1)),dG,H',⟨by have:=uz.out;have:=Oe.out;omega⟩,⟨tP⟩,⟨kE⟩⟩
        ·rw [if_neg c40] at H
         exact absurd H aV
       ·rw [if_neg c39] at H
        exact absurd H aV
      ·rw [if_neg TU] at H
       have Z0:decide (j4 < (aZ.size:Int))=false:=decide_eq_false TU
       clear TU
       by_cases c49:aI.toList=([]:List UInt8)
       ·rw [if_pos c49] at H
        have adR:(aI.toList == ([]:List UInt8))=true:=beq_iff_eq.mpr c49
        have adS:(aI.toList != ([]:List UInt8))=false:=bne_eq_false_iff_eq.mpr c49
        clear c49
        obtain rfl:=Option.some.inj H
        have Yp:wr.cell? ⟨fo,0,none⟩=some (.string aI):=(af cI.out 0).trans rfl
        have Yq:wr.cell? ⟨fo,1,none⟩=some (.string aZ):=(af cI.out 1).trans rfl
        have Yr:wr.cell? ⟨fo,2,none⟩=some (.bool bp):=(af cI.out 2).trans rfl
        have Yt:=aa cI.out 0
        have Yu:=aa cI.out 1
        have Yv:=aa cI.out 2
        go_wp2
        go_ret
        exact ⟨cO,kE⟩
       ·rw [if_neg c49] at H
        have adR:(aI.toList == ([]:List UInt8))=false:=beq_eq_false_iff_ne.mpr c49
        have adS:(aI.toList != ([]:List UInt8))=true:=bne_iff_ne.mpr c49
        obtain rfl:=Option.some.inj H
        have af4:wr.cell? ⟨fo,0,none⟩=some (.string aI):=(af cI.out 0).trans rfl
        have af5:wr.cell? ⟨fo,1,none⟩=some (.string aZ):=(af cI.out 1).trans rfl
        have af6:wr.cell? ⟨fo,2,none⟩=some (.bool bp):=(af cI.out 2).trans rfl
        have af7:=aa cI.out 0
        have af8:=aa cI.out 1
        have af9:=aa cI.out 2
        go_wp2
        go_ret
        exact ⟨by first|rfl|(simp [lu,lA];rw [show (aZ.toList != ([]:List UInt8))= !aZ.toList.isEmpty from by cases aZ.toList<;>rfl];done)|(simp [lu,lA]<;>rfl)|(simp [*,lu,lA]<;>rfl),kE⟩
end Go.Proofs.YtokpnfljjjjikaaGreatDoor.nK
