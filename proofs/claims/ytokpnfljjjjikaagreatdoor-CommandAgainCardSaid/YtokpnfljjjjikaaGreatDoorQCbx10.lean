import Derived.Test.YtokpnfljjjjikaaGreatDoorZo
import Derived.Test.YtokpnfljjjjikaaGreatDoorQCbx0
namespace Go.Proofs.YtokpnfljjjjikaaGreatDoor.pJ
open Go.RowKit Go.Proofs.aj.bV Go.Proofs.aj.gq Go.Proofs.aj.dB
attribute [local go_sem] jo jq kM kN iO iP jr jt
set_option linter.unusedVariables false
set_option linter.unusedSimpArgs false
mutual
def bW.l0:Nat→Int→Int→ByteArray→ByteArray→Bool→Option (Bool)
 | 0,_,_,_,_,_ =>none
 |k + 1,x9,EK,jW,lW,qd=>if EK < x9 then (if 0≤EK then (if EK < (jW.size:Int) then (if (bt jW EK)≥65 then (if (bt jW EK)≤90 then (bW.l0 k x9 (wrap64 (EK + 1)) jW lW qd) else (if (bt jW EK)≥48 then (if (bt jW EK)≤57 then (bW.l0 k x9 (wrap64 (EK + 1)) jW lW qd) else (if (bt jW EK)=45 then (if EK > 0 then (bW.l0 k x9 (wrap64 (EK + 1)) jW lW qd) else (some false)) else (some false))) else (if (bt jW EK)=45 then (if EK > 0 then (bW.l0 k x9 (wrap64 (EK + 1)) jW lW qd) else (some false)) else (some false)))) else (if (bt jW EK)≥48 then (if (bt jW EK)≤57 then (bW.l0 k x9 (wrap64 (EK + 1)) jW lW qd) else (if (bt jW EK)=45 then (if EK > 0 then (bW.l0 k x9 (wrap64 (EK + 1)) jW lW qd) else (some false)) else (some false))) else (if (bt jW EK)=45 then (if EK > 0 then (bW.l0 k x9 (wrap64 (EK + 1)) jW lW qd) else (some false)) else (some false)))) else (none)) else (none)) else (bW.l1 k (lW.size:Int) 0 jW lW qd)
def bW.l1:Nat→Int→Int→ByteArray→ByteArray→Bool→Option (Bool)
 | 0,_,_,_,_,_ =>none
 |k + 1,x43,x44,jW,lW,qd=>if x44 < x43 then (if 0≤x44 then (if x44 < (lW.size:Int) then (if (bt lW x44) < 33 then (some false) else (if (bt lW x44) > 126 then (some false) else (if (bt lW x44)=61 then (some false) else (bW.l1 k x43 (wrap64 (x44 + 1)) jW lW qd)))) else (none)) else (none)) else (if jW.toList=([]:List UInt8) then (some false) else (some (qd == (lW.toList != ([]:List UInt8)))))
end
def bW.f (k:Nat) (bg:ByteArray) (bI:ByteArray) (bJ:Bool):Option (Bool):=bW.l0 k (bg.size:Int) 0 bg bI bJ
theorem bW.gf:∀ k,(∀ y0 y1 y2 y3 y4,cN (bW.l0 k y0 y1 y2 y3 y4) (bW.l0 (k + 1) y0 y1 y2 y3 y4))∧(∀ y0 y1 y2 y3 y4,cN (bW.l1 k y0 y1 y2 y3 y4) (bW.l1 (k + 1) y0 y1 y2 y3 y4))
 | 0=>⟨fun _ _ _ _ _ r h=>by simp [bW.l0] at h,fun _ _ _ _ _ r h=>by simp [bW.l1] at h⟩
 |k + 1=>by
  obtain ⟨oo,ih1⟩:=bW.gf k
  refine ⟨?_,?_⟩
  ·intro y0 y1 y2 y3 y4
   unfold bW.l0
   repeat' first
   |(with_reducible exact oo _ _ _ _ _)
   |(with_reducible exact ih1 _ _ _ _ _)
   |(with_reducible exact cN.refl _)
   |(with_reducible exact cN.none _)
   |(with_reducible refine cN.ite ?_ ?_)
   |(with_reducible refine cN.bind ?_ (fun _ =>?_))
   |refine cN.ite ?_ ?_
   |refine cN.bind ?_ (fun _ =>?_)
  ·intro y0 y1 y2 y3 y4
   unfold bW.l1
   repeat' first
   |(with_reducible exact oo _ _ _ _ _)
   |(with_reducible exact ih1 _ _ _ _ _)
   |(with_reducible exact cN.refl _)
   |(with_reducible exact cN.none _)
   |(with_reducible refine cN.ite ?_ ?_)
   |(with_reducible refine cN.bind ?_ (fun _ =>?_))
   |refine cN.ite ?_ ?_
   |refine cN.bind ?_ (fun _ =>?_)
theorem bW.mono:∀ a0 a1 a2 k,cN (bW.f k a0 a1 a2) (bW.f (k + 1) a0 a1 a2):=by
 intro a0 a1 a2 k
 obtain ⟨oo,ih1⟩:=bW.gf k
 unfold bW.f
 repeat' first
  |(with_reducible exact oo _ _ _ _ _)
  |(with_reducible exact ih1 _ _ _ _ _)
  |(with_reducible exact cN.refl _)
  |(with_reducible exact cN.none _)
  |(with_reducible refine cN.ite ?_ ?_)
  |(with_reducible refine cN.bind ?_ (fun _ =>?_))
  |refine cN.ite ?_ ?_
  |refine cN.bind ?_ (fun _ =>?_)
set_option maxHeartbeats 8000000 in
set_option maxRecDepth 100000 in
theorem bW.calls (k:Nat) (bg:ByteArray) (bI:ByteArray) (bJ:Bool) (r:Bool) (w:World) (h:bW.f k bg bI bJ=some r):
 Calls Tryz.prog 138 #[.agg #[.string bg,.string bI,.bool bJ]] w fun e w'=>e= .returned (.bool r)∧Below w.heap.size w w':=by
 have Vq:=Tryz.underlying58
 have HB:=ah.mk (Below.refl w.heap.size w)
 have H:(bW.l0 k (bg.size:Int) 0 bg bI bJ)=some r:=h
 clear h
 have H':=ah.mk H
 clear H
 go_enter Tryz.func138,Tryz.ntmps138
 go_wp2_with (first|((with_reducible refine cC (N:=1) rfl ?_);refine b9 ?hg (N:=1) ?hd (cs:=#[.string bg,.string bI,.bool bJ]) (t:=58) ?hr ?_;(case hd=>rfl);(case hg=>rfl);(case hr=>first|(go_simp;done)|(go_simp;rfl));intro fQ hg w2 cJ hb;have bB:=ah.mk (ay bN hb);have bL:=ah.mk (cJ);have bY:=ah.mk ((dz:w.heap.size≤fQ));have cK:=ah.mk ((dz:w.heap.size≤fQ));clear HB;have HB:=bB;have cP:=bL;have aoZ:=bY;have adm:=cK;clear bB bL bY cK;clear hb cJ hg;have uC:w2.cell? ⟨fQ,0,none⟩=some (.string bg):=(af cP.out 0).trans rfl;have uD:w2.cell? ⟨fQ,1,none⟩=some (.string bI):=(af cP.out 1).trans rfl;have J9:w2.cell? ⟨fQ,2,none⟩=some (.bool bJ):=(af cP.out 2).trans rfl;have uE:=aa cP.out 0;have uF:=aa cP.out 1;have Ka:=aa cP.out 2))
 go_loopg [10] k (fun kq v10 w'=>∃ (dJ:Int),v10= .int .i64 dJ∧ah (bW.l0 kq (bg.size:Int) dJ bg bI bJ=some r)∧ah (kq≤k)∧ah (w'.heap[fQ]? =some (.cells #[.string bg,.string bI,.bool bJ] 58 (0,0)))∧ah (Below w.heap.size w w'))
 case atStart=>exact ⟨(0),ey,H',⟨Nat.le_refl _⟩,⟨ux⟩,⟨kS⟩⟩
 case round=>
  clear H'
  try clear c1
  try clear p2
  try clear uC
  try clear uD
  try clear J9
  try clear uE
  try clear uF
  try clear Ka
  obtain ⟨dJ,rfl,HA,uX,cP,HB⟩:=hrel
  cases gk with
  |zero=>exact absurd HA.out (by simp [bW.l0])
  |succ k1=>
   have H:=HA.out
   clear HA
   simp only [bW.l0] at H
   by_cases c4:dJ < (bg.size:Int)
   ·rw [if_pos c4] at H
    have o9:decide (dJ < (bg.size:Int))=true:=decide_eq_true c4
    clear c4
    by_cases c5: 0≤dJ
    ·rw [if_pos c5] at H
     have uB:decide (0≤dJ)=true:=decide_eq_true c5
     clear c5
     by_cases c6:dJ < (bg.size:Int)
     ·rw [if_pos c6] at H
      have pP:decide (dJ < (bg.size:Int))=true:=decide_eq_true c6
      clear c6
      by_cases c8:(bt bg dJ)≥65
      ·rw [if_pos c8] at H
       have J3:decide (65≤(bt bg dJ))=true:=decide_eq_true c8
       clear c8
       by_cases c9:(bt bg dJ)≤90
       ·rw [if_pos c9] at H
        have Ta:decide ((bt bg dJ)≤90)=true:=decide_eq_true c9
        clear c9
        have H':=ah.mk H
        clear H
        have Kb:wr.cell? ⟨fQ,0,none⟩=some (.string bg):=(af cP.out 0).trans rfl
        have Ke:wr.cell? ⟨fQ,1,none⟩=some (.string bI):=(af cP.out 1).trans rfl
        have Kf:wr.cell? ⟨fQ,2,none⟩=some (.bool bJ):=(af cP.out 2).trans rfl
        have Kg:=aa cP.out 0
        have Kh:=aa cP.out 1
        have Ki:=aa cP.out 2
        have p7: 0≤(dJ:Int):=of_decide_eq_true cW
        have q7:dJ < (bg.size:Int):=of_decide_eq_true cW
        have Dj:=iw bg dJ
        replace p7:=eq_true p7
        replace q7:=eq_true q7
        go_wp2
        go_roundg k1
        case measure=>have:=uX.out;omega
        case rel=>exact ⟨(wrap64 (dJ + 1)),ey,H',⟨j6⟩,⟨ux⟩,⟨kS⟩⟩
       ·rw [if_neg c9] at H
        have Ta:decide ((bt bg dJ)≤90)=false:=decide_eq_false c9
        clear c9
        by_cases c11:(bt bg dJ)≥48
        ·rw [if_pos c11] at H
         have zn:decide (48≤(bt bg dJ))=true:=decide_eq_true c11
         clear c11
         by_cases c12:(bt bg dJ)≤57
         ·rw [if_pos c12] at H
          have CN:decide ((bt bg dJ)≤57)=true:=decide_eq_true c12
          clear c12
          have H':=ah.mk H
          clear H
          have qN:wr.cell? ⟨fQ,0,none⟩=some (.string bg):=(af cP.out 0).trans rfl
          have qO:wr.cell? ⟨fQ,1,none⟩=some (.string bI):=(af cP.out 1).trans rfl
          have vq:wr.cell? ⟨fQ,2,none⟩=some (.bool bJ):=(af cP.out 2).trans rfl
          have qP:=aa cP.out 0
          have qQ:=aa cP.out 1
          have vv:=aa cP.out 2
          have p7: 0≤(dJ:Int):=of_decide_eq_true cW
          have q7:dJ < (bg.size:Int):=of_decide_eq_true cW
          have Dj:=iw bg dJ
          replace p7:=eq_true p7
          replace q7:=eq_true q7
          go_wp2
          go_roundg k1
          case measure=>have:=uX.out;omega
          case rel=>exact ⟨(wrap64 (dJ + 1)),ey,H',⟨j6⟩,⟨ux⟩,⟨kS⟩⟩
         ·rw [if_neg c12] at H
          have CN:decide ((bt bg dJ)≤57)=false:=decide_eq_false c12
          clear c12
          by_cases c14:(bt bg dJ)=45
          ·rw [if_pos c14] at H
           have L9:((bt bg dJ) == 45)=true:=beq_iff_eq.mpr c14
           have Ma:((bt bg dJ) != 45)=false:=bne_eq_false_iff_eq.mpr c14
           clear c14
           by_cases c15:dJ > 0
           ·rw [if_pos c15] at H
            have FD:decide (0 < dJ)=true:=decide_eq_true c15
            clear c15
            have H':=ah.mk H
            clear H
            have nO:wr.cell? ⟨fQ,0,none⟩=some (.string bg):=(af cP.out 0).trans rfl
            have nP:wr.cell? ⟨fQ,1,none⟩=some (.string bI):=(af cP.out 1).trans rfl
            have qR:wr.cell? ⟨fQ,2,none⟩=some (.bool bJ):=(af cP.out 2).trans rfl
            have nQ:=aa cP.out 0
            have nR:=aa cP.out 1
            have qT:=aa cP.out 2
            have p7: 0≤(dJ:Int):=of_decide_eq_true cW
            have q7:dJ < (bg.size:Int):=of_decide_eq_true cW
            have Dj:=iw bg dJ
            replace p7:=eq_true p7
            replace q7:=eq_true q7
            go_wp2
            go_roundg k1
            case measure=>have:=uX.out;omega
            case rel=>exact ⟨(wrap64 (dJ + 1)),ey,H',⟨j6⟩,⟨ux⟩,⟨kS⟩⟩
           ·rw [if_neg c15] at H
            have FD:decide (0 < dJ)=false:=decide_eq_false c15
            clear c15
            obtain rfl:=Option.some.inj H
            have tW:wr.cell? ⟨fQ,0,none⟩=some (.string bg):=(af cP.out 0).trans rfl
            have tX:wr.cell? ⟨fQ,1,none⟩=some (.string bI):=(af cP.out 1).trans rfl
            have AB:wr.cell? ⟨fQ,2,none⟩=some (.bool bJ):=(af cP.out 2).trans rfl
            have tY:=aa cP.out 0
            have tZ:=aa cP.out 1
            have AE:=aa cP.out 2
            have p7: 0≤(dJ:Int):=of_decide_eq_true cW
            have q7:dJ < (bg.size:Int):=of_decide_eq_true cW
            have Dj:=iw bg dJ
            replace p7:=eq_true p7
            replace q7:=eq_true q7
            go_wp2
            go_ret
            exact ⟨cR,kS⟩
          ·rw [if_neg c14] at H
           have L9:((bt bg dJ) == 45)=false:=beq_eq_false_iff_ne.mpr c14
           have Ma:((bt bg dJ) != 45)=true:=bne_iff_ne.mpr c14
           obtain rfl:=Option.some.inj H
           have yq:wr.cell? ⟨fQ,0,none⟩=some (.string bg):=(af cP.out 0).trans rfl
           have yt:wr.cell? ⟨fQ,1,none⟩=some (.string bI):=(af cP.out 1).trans rfl
           have AG:wr.cell? ⟨fQ,2,none⟩=some (.bool bJ):=(af cP.out 2).trans rfl
           have yu:=aa cP.out 0
           have yw:=aa cP.out 1
           have AH:=aa cP.out 2
           have p7: 0≤(dJ:Int):=of_decide_eq_true cW
           have q7:dJ < (bg.size:Int):=of_decide_eq_true cW
           have Dj:=iw bg dJ
           replace p7:=eq_true p7
           replace q7:=eq_true q7
           go_wp2
           go_ret
           exact ⟨cR,kS⟩
        ·rw [if_neg c11] at H
         have zn:decide (48≤(bt bg dJ))=false:=decide_eq_false c11
         clear c11
         by_cases c19:(bt bg dJ)=45
         ·rw [if_pos c19] at H
          have Sc:((bt bg dJ) == 45)=true:=beq_iff_eq.mpr c19
          have Wd:((bt bg dJ) != 45)=false:=bne_eq_false_iff_eq.mpr c19
          clear c19
          by_cases c20:dJ > 0
          ·rw [if_pos c20] at H
           have He:decide (0 < dJ)=true:=decide_eq_true c20
           clear c20
           have H':=ah.mk H
           clear H
           have vM:wr.cell? ⟨fQ,0,none⟩=some (.string bg):=(af cP.out 0).trans rfl
           have vN:wr.cell? ⟨fQ,1,none⟩=some (.string bI):=(af cP.out 1).trans rfl
           have vO:wr.cell? ⟨fQ,2,none⟩=some (.bool bJ):=(af cP.out 2).trans rfl
           have vP:=aa cP.out 0
           have vQ:=aa cP.out 1
           have vR:=aa cP.out 2
           have p7: 0≤(dJ:Int):=of_decide_eq_true cW
           have q7:dJ < (bg.size:Int):=of_decide_eq_true cW
           have Dj:=iw bg dJ
           replace p7:=eq_true p7
           replace q7:=eq_true q7
           go_wp2
           go_roundg k1
           case measure=>have:=uX.out;omega
           case rel=>exact ⟨(wrap64 (dJ + 1)),ey,H',⟨j6⟩,⟨ux⟩,⟨kS⟩⟩
          ·rw [if_neg c20] at H
           have He:decide (0 < dJ)=false:=decide_eq_false c20
           clear c20
           obtain rfl:=Option.some.inj H
           have yx:wr.cell? ⟨fQ,0,none⟩=some (.string bg):=(af cP.out 0).trans rfl
           have yz:wr.cell? ⟨fQ,1,none⟩=some (.string bI):=(af cP.out 1).trans rfl
           have AP:wr.cell? ⟨fQ,2,none⟩=some (.bool bJ):=(af cP.out 2).trans rfl
           have yA:=aa cP.out 0
           have yB:=aa cP.out 1
           have AQ:=aa cP.out 2
           have p7: 0≤(dJ:Int):=of_decide_eq_true cW
           have q7:dJ < (bg.size:Int):=of_decide_eq_true cW
           have Dj:=iw bg dJ
           replace p7:=eq_true p7
           replace q7:=eq_true q7
           go_wp2
           go_ret
           exact ⟨cR,kS⟩
         ·rw [if_neg c19] at H
          have Sc:((bt bg dJ) == 45)=false:=beq_eq_false_iff_ne.mpr c19
          have Wd:((bt bg dJ) != 45)=true:=bne_iff_ne.mpr c19
          obtain rfl:=Option.some.inj H
          have EL:wr.cell? ⟨fQ,0,none⟩=some (.string bg):=(af cP.out 0).trans rfl
          have EM:wr.cell? ⟨fQ,1,none⟩=some (.string bI):=(af cP.out 1).trans rfl
          have EN:wr.cell? ⟨fQ,2,none⟩=some (.bool bJ):=(af cP.out 2).trans rfl
          have EO:=aa cP.out 0
          have EP:=aa cP.out 1
          have ER:=aa cP.out 2
          have p7: 0≤(dJ:Int):=of_decide_eq_true cW
          have q7:dJ < (bg.size:Int):=of_decide_eq_true cW
          have Dj:=iw bg dJ
          replace p7:=eq_true p7
          replace q7:=eq_true q7
          go_wp2
          go_ret
          exact ⟨cR,kS⟩
      ·rw [if_neg c8] at H
       have J3:decide (65≤(bt bg dJ))=false:=decide_eq_false c8
       clear c8
       by_cases c24:(bt bg dJ)≥48
       ·rw [if_pos c24] at H
        have LQ:decide (48≤(bt bg dJ))=true:=decide_eq_true c24
        clear c24
        by_cases Tg:(bt bg dJ)≤57
        ·rw [if_pos Tg] at H
         have We:decide ((bt bg dJ)≤57)=true:=decide_eq_true Tg
         clear Tg
         have H':=ah.mk H
         clear H
         have I9:wr.cell? ⟨fQ,0,none⟩=some (.string bg):=(af cP.out 0).trans rfl
         have Ja:wr.cell? ⟨fQ,1,none⟩=some (.string bI):=(af cP.out 1).trans rfl
         have Jb:wr.cell? ⟨fQ,2,none⟩=some (.bool bJ):=(af cP.out 2).trans rfl
         have Jc:=aa cP.out 0
         have Jd:=aa cP.out 1
         have Je:=aa cP.out 2
         have p7: 0≤(dJ:Int):=of_decide_eq_true cW
         have q7:dJ < (bg.size:Int):=of_decide_eq_true cW
         have Dj:=iw bg dJ
         replace p7:=eq_true p7
         replace q7:=eq_true q7
         go_wp2
         go_roundg k1
         case measure=>have:=uX.out;omega
         case rel=>exact ⟨(wrap64 (dJ + 1)),ey,H',⟨j6⟩,⟨ux⟩,⟨kS⟩⟩
        ·rw [if_neg Tg] at H
         have We:decide ((bt bg dJ)≤57)=false:=decide_eq_false Tg
         clear Tg
         by_cases Re:(bt bg dJ)=45
         ·rw [if_pos Re] at H
          have aax:((bt bg dJ) == 45)=true:=beq_iff_eq.mpr Re
          have aay:((bt bg dJ) != 45)=false:=bne_eq_false_iff_eq.mpr Re
          clear Re
          by_cases c28:dJ > 0
          ·rw [if_pos c28] at H
           have Hl:decide (0 < dJ)=true:=decide_eq_true c28
           clear c28
           have H':=ah.mk H
           clear H
           have Ap:wr.cell? ⟨fQ,0,none⟩=some (.string bg):=(af cP.out 0).trans rfl
           have Aq:wr.cell? ⟨fQ,1,none⟩=some (.string bI):=(af cP.out 1).trans rfl
           have D7:wr.cell? ⟨fQ,2,none⟩=some (.bool bJ):=(af cP.out 2).trans rfl
           have Ar:=aa cP.out 0
           have Au:=aa cP.out 1
           have D8:=aa cP.out 2
           have p7: 0≤(dJ:Int):=of_decide_eq_true cW
           have q7:dJ < (bg.size:Int):=of_decide_eq_true cW
           have Dj:=iw bg dJ
           replace p7:=eq_true p7
           replace q7:=eq_true q7
           go_wp2
           go_roundg k1
           case measure=>have:=uX.out;omega
           case rel=>exact ⟨(wrap64 (dJ + 1)),ey,H',⟨j6⟩,⟨ux⟩,⟨kS⟩⟩
          ·rw [if_neg c28] at H
           have Hl:decide (0 < dJ)=false:=decide_eq_false c28
           clear c28
           obtain rfl:=Option.some.inj H
           have QC:wr.cell? ⟨fQ,0,none⟩=some (.string bg):=(af cP.out 0).trans rfl
           have QD:wr.cell? ⟨fQ,1,none⟩=some (.string bI):=(af cP.out 1).trans rfl
           have QE:wr.cell? ⟨fQ,2,none⟩=some (.bool bJ):=(af cP.out 2).trans rfl
           have QF:=aa cP.out 0
           have QG:=aa cP.out 1
           have QH:=aa cP.out 2
           have p7: 0≤(dJ:Int):=of_decide_eq_true cW
           have q7:dJ < (bg.size:Int):=of_decide_eq_true cW
           have Dj:=iw bg dJ
           replace p7:=eq_true p7
           replace q7:=eq_true q7
           go_wp2
           go_ret
           exact ⟨cR,kS⟩
         ·rw [if_neg Re] at H
          have aax:((bt bg dJ) == 45)=false:=beq_eq_false_iff_ne.mpr Re
          have aay:((bt bg dJ) != 45)=true:=bne_iff_ne.mpr Re
          obtain rfl:=Option.some.inj H
          have yN:wr.cell? ⟨fQ,0,none⟩=some (.string bg):=(af cP.out 0).trans rfl
          have yO:wr.cell? ⟨fQ,1,none⟩=some (.string bI):=(af cP.out 1).trans rfl
          have Bk:wr.cell? ⟨fQ,2,none⟩=some (.bool bJ):=(af cP.out 2).trans rfl
          have yP:=aa cP.out 0
          have yQ:=aa cP.out 1
          have Bl:=aa cP.out 2
          have p7: 0≤(dJ:Int):=of_decide_eq_true cW
          have q7:dJ < (bg.size:Int):=of_decide_eq_true cW
          have Dj:=iw bg dJ
          replace p7:=eq_true p7
          replace q7:=eq_true q7
          go_wp2
          go_ret
          exact ⟨cR,kS⟩
       ·rw [if_neg c24] at H
        have LQ:decide (48≤(bt bg dJ))=false:=decide_eq_false c24
        clear c24
        by_cases GI:(bt bg dJ)=45
        ·rw [if_pos GI] at H
         have LX:((bt bg dJ) == 45)=true:=beq_iff_eq.mpr GI
         have Sd:((bt bg dJ) != 45)=false:=bne_eq_false_iff_eq.mpr GI
         clear GI
         by_cases JV:dJ > 0
         ·rw [if_pos JV] at H
          have Rf:decide (0 < dJ)=true:=decide_eq_true JV
          clear JV
          have H':=ah.mk H
          clear H
          have Kj:wr.cell? ⟨fQ,0,none⟩=some (.string bg):=(af cP.out 0).trans rfl
          have Kk:wr.cell? ⟨fQ,1,none⟩=some (.string bI):=(af cP.out 1).trans rfl
          have Kl:wr.cell? ⟨fQ,2,none⟩=some (.bool bJ):=(af cP.out 2).trans rfl
          have Km:=aa cP.out 0
          have Kn:=aa cP.out 1
          have Ko:=aa cP.out 2
          have p7: 0≤(dJ:Int):=of_decide_eq_true cW
          have q7:dJ < (bg.size:Int):=of_decide_eq_true cW
          have Dj:=iw bg dJ
          replace p7:=eq_true p7
          replace q7:=eq_true q7
          go_wp2
          go_roundg k1
          case measure=>have:=uX.out;omega
          case rel=>exact ⟨(wrap64 (dJ + 1)),ey,H',⟨j6⟩,⟨ux⟩,⟨kS⟩⟩
         ·rw [if_neg JV] at H
          have Rf:decide (0 < dJ)=false:=decide_eq_false JV
          clear JV
          obtain rfl:=Option.some.inj H
          have AR:wr.cell? ⟨fQ,0,none⟩=some (.string bg):=(af cP.out 0).trans rfl
          have AU:wr.cell? ⟨fQ,1,none⟩=some (.string bI):=(af cP.out 1).trans rfl
          have AV:wr.cell? ⟨fQ,2,none⟩=some (.bool bJ):=(af cP.out 2).trans rfl
          have AW:=aa cP.out 0
          have AX:=aa cP.out 1
          have AY:=aa cP.out 2
          have p7: 0≤(dJ:Int):=of_decide_eq_true cW
          have q7:dJ < (bg.size:Int):=of_decide_eq_true cW
          have Dj:=iw bg dJ
          replace p7:=eq_true p7
          replace q7:=eq_true q7
          go_wp2
          go_ret
          exact ⟨cR,kS⟩
        ·rw [if_neg GI] at H
         have LX:((bt bg dJ) == 45)=false:=beq_eq_false_iff_ne.mpr GI
         have Sd:((bt bg dJ) != 45)=true:=bne_iff_ne.mpr GI
         obtain rfl:=Option.some.inj H
         have yG:wr.cell? ⟨fQ,0,none⟩=some (.string bg):=(af cP.out 0).trans rfl
         have yH:wr.cell? ⟨fQ,1,none⟩=some (.string bI):=(af cP.out 1).trans rfl
         have yI:wr.cell? ⟨fQ,2,none⟩=some (.bool bJ):=(af cP.out 2).trans rfl
         have yJ:=aa cP.out 0
         have yK:=aa cP.out 1
         have yL:=aa cP.out 2
         have p7: 0≤(dJ:Int):=of_decide_eq_true cW
         have q7:dJ < (bg.size:Int):=of_decide_eq_true cW
         have Dj:=iw bg dJ
         replace p7:=eq_true p7
         replace q7:=eq_true q7
         go_wp2
         go_ret
         exact ⟨cR,kS⟩
     ·rw [if_neg c6] at H
      exact absurd H bn
    ·rw [if_neg c5] at H
     exact absurd H bn
   ·rw [if_neg c4] at H
    have o9:decide (dJ < (bg.size:Int))=false:=decide_eq_false c4
    clear c4
    have H':=ah.mk H
    clear H
    have Sg:wr.cell? ⟨fQ,0,none⟩=some (.string bg):=(af cP.out 0).trans rfl
    have Sh:wr.cell? ⟨fQ,1,none⟩=some (.string bI):=(af cP.out 1).trans rfl
    have Si:wr.cell? ⟨fQ,2,none⟩=some (.bool bJ):=(af cP.out 2).trans rfl
    have Sj:=aa cP.out 0
    have Sk:=aa cP.out 1
    have Sl:=aa cP.out 2
    go_wp2
    go_loopg [44] k1 (fun kq v44 w'=>∃ (kF:Int),v44= .int .i64 kF∧ah (bW.l1 kq (bI.size:Int) kF bg bI bJ=some r)∧ah (kq≤k1)∧ah (w'.heap[fQ]? =some (.cells #[.string bg,.string bI,.bool bJ] 58 (0,0)))∧ah (Below w.heap.size w w'))
    case atStart=>exact ⟨(0),ey,H',⟨Nat.le_refl _⟩,⟨ux⟩,⟨kS⟩⟩
    case round=>
     clear H'
     try clear c1
     try clear c2
     try clear p2
     try clear c3
     try clear c4
     try clear o9
     try clear c5
     try clear uB
     try clear c6
     try clear pP
     try clear p6
     try clear p7
     try clear q7
     try clear Dj
     try clear c8
     try clear J3
     try clear c9
     try clear Ta
     try clear c11
     try clear zn
     try clear c12
     try clear CN
     try clear c13
     try clear c14
     try clear L9
     try clear Ma
     try clear c15
     try clear FD
     try clear c19
     try clear Sc
     try clear Wd
     try clear c20
     try clear He
     try clear c24
     try clear LQ
     try clear Tg
     try clear We
     try clear Re
     try clear aax
     try clear aay
     try clear c28
     try clear Hl
     try clear GI
     try clear LX
     try clear Sd
     try clear JV
     try clear Rf
     try clear Kb
     try clear Ke
     try clear Kf
     try clear qN
     try clear qO
     try clear vq
     try clear nO
     try clear nP
     try clear qR
     try clear tW
     try clear tX
     try clear AB
     try clear yq
     try clear yt
     try clear AG
     try clear vM
     try clear vN
     try clear vO
     try clear yx
     try clear yz
     try clear AP
     try clear EL
     try clear EM
     try clear EN
     try clear I9
     try clear Ja
     try clear Jb
     try clear Ap
     try clear Aq
     try clear D7
     try clear QC
     try clear QD
     try clear QE
     try clear yN
     try clear yO
     try clear Bk
     try clear Kj
     try clear Kk
     try clear Kl
     try clear AR
     try clear AU
     try clear AV
     try clear yG
     try clear yH
     try clear yI
     try clear Sg
     try clear Sh
     try clear Si
     try clear uC
     try clear uD
     try clear J9
     try clear Kg
     try clear Kh
     try clear Ki
     try clear qP
     try clear qQ
     try clear vv
     try clear nQ
     try clear nR
     try clear qT
     try clear tY
     try clear tZ
     try clear AE
     try clear yu
     try clear yw
     try clear AH
     try clear vP
     try clear vQ
     try clear vR
     try clear yA
     try clear yB
     try clear AQ
     try clear EO
     try clear EP
     try clear ER
     try clear Jc
     try clear Jd
     try clear Je
     try clear Ar
     try clear Au
     try clear D8
     try clear QF
     try clear QG
     try clear QH
     try clear yP
     try clear yQ
     try clear Bl
     try clear Km
     try clear Kn
     try clear Ko
     try clear AW
     try clear AX
     try clear AY
     try clear yJ
     try clear yK
     try clear yL
     try clear Sj
     try clear Sk
     try clear Sl
     try clear uE
     try clear uF
     try clear Ka
     try clear p2
     try clear p7
     try clear q7
     obtain ⟨kF,rfl,HA,Oj,cP,HB⟩:=hrel
     cases gk with
     |zero=>exact absurd HA.out (by simp [bW.l1])
     |succ k2=>
      have H:=HA.out
      clear HA
      simp only [bW.l1] at H
      by_cases Ub:kF < (bI.size:Int)
      ·rw [if_pos Ub] at H
       have aaz:decide (kF < (bI.size:Int))=true:=decide_eq_true Ub
       clear Ub
       by_cases c39: 0≤kF
       ·rw [if_pos c39] at H
        have ao0:decide (0≤kF)=true:=decide_eq_true c39
        clear c39
        by_cases c40:kF < (bI.size:Int)
        ·rw [if_pos c40] at H
         have ao1:decide (kF < (bI.size:Int))=true:=decide_eq_true c40
         clear c40
         by_cases c42:(bt bI kF) < 33
         ·rw [if_pos c42] at H
          have aeG:decide ((bt bI kF) < 33)=true:=decide_eq_true c42
          clear c42
          obtain rfl:=Option.some.inj H
          have Za:wr.cell? ⟨fQ,0,none⟩=some (.string bg):=(af cP.out 0).trans rfl
          have Zb:wr.cell? ⟨fQ,1,none⟩=some (.string bI):=(af cP.out 1).trans rfl
          have Zc:wr.cell? ⟨fQ,2,none⟩=some (.bool bJ):=(af cP.out 2).trans rfl
          have Zd:=aa cP.out 0
          have Ze:=aa cP.out 1
          have Zf:=aa cP.out 2
          have Wf: 0≤(kF:Int):=of_decide_eq_true cW
          have Wh:kF < (bI.size:Int):=of_decide_eq_true cW
          have abK:=iw bI kF
          replace Wf:=eq_true Wf
          replace Wh:=eq_true Wh
          go_wp2
          go_ret
          exact ⟨cR,kS⟩
         ·rw [if_neg c42] at H
          have aeG:decide ((bt bI kF) < 33)=false:=decide_eq_false c42
          clear c42
          by_cases c44:(bt bI kF) > 126
          ·rw [if_pos c44] at H
           have aeH:decide (126 < (bt bI kF))=true:=decide_eq_true c44
           clear c44
           obtain rfl:=Option.some.inj H
           have YU:wr.cell? ⟨fQ,0,none⟩=some (.string bg):=(af cP.out 0).trans rfl
           have YV:wr.cell? ⟨fQ,1,none⟩=some (.string bI):=(af cP.out 1).trans rfl
           have YW:wr.cell? ⟨fQ,2,none⟩=some (.bool bJ):=(af cP.out 2).trans rfl
           have YX:=aa cP.out 0
           have YY:=aa cP.out 1
           have YZ:=aa cP.out 2
           have Wf: 0≤(kF:Int):=of_decide_eq_true cW
           have Wh:kF < (bI.size:Int):=of_decide_eq_true cW
           have abK:=iw bI kF
           replace Wf:=eq_true Wf
           replace Wh:=eq_true Wh
           go_wp2
           go_ret
           exact ⟨cR,kS⟩
          ·rw [if_neg c44] at H
           have aeH:decide (126 < (bt bI kF))=false:=decide_eq_false c44
           clear c44
           by_cases c46:(bt bI kF)=61
           ·rw [if_pos c46] at H
            have aeI:((bt bI kF) == 61)=true:=beq_iff_eq.mpr c46
            have aeJ:((bt bI kF) != 61)=false:=bne_eq_false_iff_eq.mpr c46
            clear c46
            obtain rfl:=Option.some.inj H
            have aih:wr.cell? ⟨fQ,0,none⟩=some (.string bg):=(af cP.out 0).trans rfl
            have aii:wr.cell? ⟨fQ,1,none⟩=some (.string bI):=(af cP.out 1).trans rfl
            have aij:wr.cell? ⟨fQ,2,none⟩=some (.bool bJ):=(af cP.out 2).trans rfl
            have aik:=aa cP.out 0
            have ail:=aa cP.out 1
            have aim:=aa cP.out 2
            have Wf: 0≤(kF:Int):=of_decide_eq_true cW
            have Wh:kF < (bI.size:Int):=of_decide_eq_true cW
            have abK:=iw bI kF
            replace Wf:=eq_true Wf
            replace Wh:=eq_true Wh
            go_wp2
            go_ret
            exact ⟨cR,kS⟩
           ·rw [if_neg c46] at H
            have aeI:((bt bI kF) == 61)=false:=beq_eq_false_iff_ne.mpr c46
            have aeJ:((bt bI kF) != 61)=true:=bne_iff_ne.mpr c46
            have H':=ah.mk H
            clear H
            have Y0:wr.cell? ⟨fQ,0,none⟩=some (.string bg):=(af cP.out 0).trans rfl
            have Y1:wr.cell? ⟨fQ,1,none⟩=some (.string bI):=(af cP.out 1).trans rfl
            have Y2:wr.cell? ⟨fQ,2,none⟩=some (.bool bJ):=(af cP.out 2).trans rfl
            have Y3:=aa cP.out 0
            have Y4:=aa cP.out 1
            have Y5:=aa cP.out 2
            have Wf: 0≤(kF:Int):=of_decide_eq_true cW
            have Wh:kF < (bI.size:Int):=of_decide_eq_true cW
            have abK:=iw bI kF
            replace Wf:=eq_true Wf
            replace Wh:=eq_true Wh
            go_wp2
            go_roundg k2
            case measure=>have:=uX.out;have:=Oj.out;omega
            case rel=>exact ⟨(wrap64 (kF + 1)),ey,H',⟨by have:=uX.out;have:=Oj.out;omega⟩,⟨ux⟩,⟨kS⟩⟩
        ·rw [if_neg c40] at H
         exact absurd H bn
       ·rw [if_neg c39] at H
        exact absurd H bn
      ·rw [if_neg Ub] at H
       have aaz:decide (kF < (bI.size:Int))=false:=decide_eq_false Ub
       clear Ub
       by_cases c49:bg.toList=([]:List UInt8)
       ·rw [if_pos c49] at H
        have aeK:(bg.toList == ([]:List UInt8))=true:=beq_iff_eq.mpr c49
        have aeL:(bg.toList != ([]:List UInt8))=false:=bne_eq_false_iff_eq.mpr c49
        clear c49
        obtain rfl:=Option.some.inj H
        have R6:wr.cell? ⟨fQ,0,none⟩=some (.string bg):=(af cP.out 0).trans rfl
        have R7:wr.cell? ⟨fQ,1,none⟩=some (.string bI):=(af cP.out 1).trans rfl
        have R8:wr.cell? ⟨fQ,2,none⟩=some (.bool bJ):=(af cP.out 2).trans rfl
        have R9:=aa cP.out 0
        have Sa:=aa cP.out 1
        have Sb:=aa cP.out 2
        go_wp2
        go_ret
        exact ⟨cR,kS⟩
       ·rw [if_neg c49] at H
        have aeK:(bg.toList == ([]:List UInt8))=false:=beq_eq_false_iff_ne.mpr c49
        have aeL:(bg.toList != ([]:List UInt8))=true:=bne_iff_ne.mpr c49
        obtain rfl:=Option.some.inj H
        have ain:wr.cell? ⟨fQ,0,none⟩=some (.string bg):=(af cP.out 0).trans rfl
        have aio:wr.cell? ⟨fQ,1,none⟩=some (.string bI):=(af cP.out 1).trans rfl
        have aip:wr.cell? ⟨fQ,2,none⟩=some (.bool bJ):=(af cP.out 2).trans rfl
        have aiq:=aa cP.out 0
        have air:=aa cP.out 1
        have ais:=aa cP.out 2
        go_wp2
        go_ret
        exact ⟨by first|rfl|(simp [lX,lY];rw [show (bI.toList != ([]:List UInt8))= !bI.toList.isEmpty from by cases bI.toList<;>rfl];done)|(simp [lX,lY]<;>rfl)|(simp [*,lX,lY]<;>rfl),kS⟩
end Go.Proofs.YtokpnfljjjjikaaGreatDoor.pJ
