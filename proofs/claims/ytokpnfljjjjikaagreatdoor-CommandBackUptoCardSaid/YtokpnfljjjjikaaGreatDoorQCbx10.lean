import Derived.Test.YtokpnfljjjjikaaGreatDoorZo
import Derived.Test.YtokpnfljjjjikaaGreatDoorQCbx0
namespace Go.Proofs.YtokpnfljjjjikaaGreatDoor.nX
open Go.RowKit Go.Proofs.aj.bW Go.Proofs.aj.fW Go.Proofs.aj.dz
attribute [local go_sem] jg jh kO kP iK iL ji jk
set_option linter.unusedVariables false
set_option linter.unusedSimpArgs false
mutual
def bP.l0:Nat→Int→Int→ByteArray→ByteArray→Bool→Option (Bool)
 | 0,_,_,_,_,_ =>none
 |k + 1,x9,Et,jR,lO,pV=>if Et < x9 then (if 0≤Et then (if Et < (jR.size:Int) then (if (bt jR Et)≥65 then (if (bt jR Et)≤90 then (bP.l0 k x9 (wrap64 (Et + 1)) jR lO pV) else (if (bt jR Et)≥48 then (if (bt jR Et)≤57 then (bP.l0 k x9 (wrap64 (Et + 1)) jR lO pV) else (if (bt jR Et)=45 then (if Et > 0 then (bP.l0 k x9 (wrap64 (Et + 1)) jR lO pV) else (some false)) else (some false))) else (if (bt jR Et)=45 then (if Et > 0 then (bP.l0 k x9 (wrap64 (Et + 1)) jR lO pV) else (some false)) else (some false)))) else (if (bt jR Et)≥48 then (if (bt jR Et)≤57 then (bP.l0 k x9 (wrap64 (Et + 1)) jR lO pV) else (if (bt jR Et)=45 then (if Et > 0 then (bP.l0 k x9 (wrap64 (Et + 1)) jR lO pV) else (some false)) else (some false))) else (if (bt jR Et)=45 then (if Et > 0 then (bP.l0 k x9 (wrap64 (Et + 1)) jR lO pV) else (some false)) else (some false)))) else (none)) else (none)) else (bP.l1 k (lO.size:Int) 0 jR lO pV)
def bP.l1:Nat→Int→Int→ByteArray→ByteArray→Bool→Option (Bool)
 | 0,_,_,_,_,_ =>none
 |k + 1,x43,x44,jR,lO,pV=>if x44 < x43 then (if 0≤x44 then (if x44 < (lO.size:Int) then (if (bt lO x44) < 33 then (some false) else (if (bt lO x44) > 126 then (some false) else (if (bt lO x44)=61 then (some false) else (bP.l1 k x43 (wrap64 (x44 + 1)) jR lO pV)))) else (none)) else (none)) else (if jR.toList=([]:List UInt8) then (some false) else (some (pV == (lO.toList != ([]:List UInt8)))))
end
def bP.f (k:Nat) (aK:ByteArray) (bf:ByteArray) (bg:Bool):Option (Bool):=bP.l0 k (aK.size:Int) 0 aK bf bg
theorem bP.fR:∀ k,(∀ y0 y1 y2 y3 y4,cR (bP.l0 k y0 y1 y2 y3 y4) (bP.l0 (k + 1) y0 y1 y2 y3 y4))∧(∀ y0 y1 y2 y3 y4,cR (bP.l1 k y0 y1 y2 y3 y4) (bP.l1 (k + 1) y0 y1 y2 y3 y4))
 | 0=>⟨fun _ _ _ _ _ r h=>by simp [bP.l0] at h,fun _ _ _ _ _ r h=>by simp [bP.l1] at h⟩
 |k + 1=>by
  obtain ⟨nY,ih1⟩:=bP.fR k
  refine ⟨?_,?_⟩
  ·intro y0 y1 y2 y3 y4
   unfold bP.l0
   repeat' first
   |(with_reducible exact nY _ _ _ _ _)
   |(with_reducible exact ih1 _ _ _ _ _)
   |(with_reducible exact cR.refl _)
   |(with_reducible exact cR.none _)
   |(with_reducible refine cR.ite ?_ ?_)
   |(with_reducible refine cR.bind ?_ (fun _ =>?_))
   |refine cR.ite ?_ ?_
   |refine cR.bind ?_ (fun _ =>?_)
  ·intro y0 y1 y2 y3 y4
   unfold bP.l1
   repeat' first
   |(with_reducible exact nY _ _ _ _ _)
   |(with_reducible exact ih1 _ _ _ _ _)
   |(with_reducible exact cR.refl _)
   |(with_reducible exact cR.none _)
   |(with_reducible refine cR.ite ?_ ?_)
   |(with_reducible refine cR.bind ?_ (fun _ =>?_))
   |refine cR.ite ?_ ?_
   |refine cR.bind ?_ (fun _ =>?_)
theorem bP.mono:∀ a0 a1 a2 k,cR (bP.f k a0 a1 a2) (bP.f (k + 1) a0 a1 a2):=by
 intro a0 a1 a2 k
 obtain ⟨nY,ih1⟩:=bP.fR k
 unfold bP.f
 repeat' first
  |(with_reducible exact nY _ _ _ _ _)
  |(with_reducible exact ih1 _ _ _ _ _)
  |(with_reducible exact cR.refl _)
  |(with_reducible exact cR.none _)
  |(with_reducible refine cR.ite ?_ ?_)
  |(with_reducible refine cR.bind ?_ (fun _ =>?_))
  |refine cR.ite ?_ ?_
  |refine cR.bind ?_ (fun _ =>?_)
set_option maxHeartbeats 8000000 in
set_option maxRecDepth 100000 in
theorem bP.calls (k:Nat) (aK:ByteArray) (bf:ByteArray) (bg:Bool) (r:Bool) (w:World) (h:bP.f k aK bf bg=some r):
 Calls Tryz.prog 138 #[.agg #[.string aK,.string bf,.bool bg]] w fun e w'=>e= .returned (.bool r)∧Below w.heap.size w w':=by
 have U0:=Tryz.underlying58
 have HB:=ah.mk (Below.refl w.heap.size w)
 have H:(bP.l0 k (aK.size:Int) 0 aK bf bg)=some r:=h
 clear h
 have H':=ah.mk H
 clear H
 go_enter Tryz.func138,Tryz.ntmps138
 go_wp2_with (first|((with_reducible refine cG (N:=1) rfl ?_);refine cj ?hg (N:=1) ?hd (cs:=#[.string aK,.string bf,.bool bg]) (t:=58) ?hr ?_;(case hd=>rfl);(case hg=>rfl);(case hr=>first|(go_simp;done)|(go_simp;rfl));intro fF hg w2 cJ hb;have bD:=ah.mk (ay cw hb);have bN:=ah.mk (cJ);have cz:=ah.mk ((dK:w.heap.size≤fF));have cY:=ah.mk ((dK:w.heap.size≤fF));clear HB;have HB:=bD;have cT:=bN;have apz:=cz;have adH:=cY;clear bD bN cz cY;clear hb cJ hg;have tS:w2.cell? ⟨fF,0,none⟩=some (.string aK):=(af cT.out 0).trans rfl;have tT:w2.cell? ⟨fF,1,none⟩=some (.string bf):=(af cT.out 1).trans rfl;have J0:w2.cell? ⟨fF,2,none⟩=some (.bool bg):=(af cT.out 2).trans rfl;have tU:=aa cT.out 0;have tV:=aa cT.out 1;have J1:=aa cT.out 2))
 go_loopg [10] k (fun kq v10 w'=>∃ (dP:Int),v10= .int .i64 dP∧ah (bP.l0 kq (aK.size:Int) dP aK bf bg=some r)∧ah (kq≤k)∧ah (w'.heap[fF]? =some (.cells #[.string aK,.string bf,.bool bg] 58 (0,0)))∧ah (Below w.heap.size w w'))
 case atStart=>exact ⟨(0),ey,H',⟨Nat.le_refl _⟩,⟨tP⟩,⟨kT⟩⟩
 case round=>
  clear H'
  try clear c1
  try clear p2
  try clear tS
  try clear tT
  try clear J0
  try clear tU
  try clear tV
  try clear J1
  obtain ⟨dP,rfl,HA,uC,cT,HB⟩:=hrel
  cases gk with
  |zero=>exact absurd HA.out (by simp [bP.l0])
  |succ k1=>
   have H:=HA.out
   clear HA
   simp only [bP.l0] at H
   by_cases c4:dP < (aK.size:Int)
   ·rw [if_pos c4] at H
    have oL:decide (dP < (aK.size:Int))=true:=decide_eq_true c4
    clear c4
    by_cases c5: 0≤dP
    ·rw [if_pos c5] at H
     have tR:decide (0≤dP)=true:=decide_eq_true c5
     clear c5
     by_cases c6:dP < (aK.size:Int)
     ·rw [if_pos c6] at H
      have pF:decide (dP < (aK.size:Int))=true:=decide_eq_true c6
      clear c6
      by_cases c8:(bt aK dP)≥65
      ·rw [if_pos c8] at H
       have IM:decide (65≤(bt aK dP))=true:=decide_eq_true c8
       clear c8
       by_cases c9:(bt aK dP)≤90
       ·rw [if_pos c9] at H
        have SY:decide ((bt aK dP)≤90)=true:=decide_eq_true c9
        clear c9
        have H':=ah.mk H
        clear H
        have J2:wr.cell? ⟨fF,0,none⟩=some (.string aK):=(af cT.out 0).trans rfl
        have J3:wr.cell? ⟨fF,1,none⟩=some (.string bf):=(af cT.out 1).trans rfl
        have J4:wr.cell? ⟨fF,2,none⟩=some (.bool bg):=(af cT.out 2).trans rfl
        have J5:=aa cT.out 0
        have J6:=aa cT.out 1
        have J7:=aa cT.out 2
        have p7: 0≤(dP:Int):=of_decide_eq_true cX
        have q7:dP < (aK.size:Int):=of_decide_eq_true cX
        have C7:=gV aK dP
        replace p7:=eq_true p7
        replace q7:=eq_true q7
        go_wp2
        go_roundg k1
        case measure=>have:=uC.out;omega
        case rel=>exact ⟨(wrap64 (dP + 1)),ey,H',⟨j6⟩,⟨tP⟩,⟨kT⟩⟩
       ·rw [if_neg c9] at H
        have SY:decide ((bt aK dP)≤90)=false:=decide_eq_false c9
        clear c9
        by_cases c11:(bt aK dP)≥48
        ·rw [if_pos c11] at H
         have za:decide (48≤(bt aK dP))=true:=decide_eq_true c11
         clear c11
         by_cases c12:(bt aK dP)≤57
         ·rw [if_pos c12] at H
          have Ct:decide ((bt aK dP)≤57)=true:=decide_eq_true c12
          clear c12
          have H':=ah.mk H
          clear H
          have qC:wr.cell? ⟨fF,0,none⟩=some (.string aK):=(af cT.out 0).trans rfl
          have qD:wr.cell? ⟨fF,1,none⟩=some (.string bf):=(af cT.out 1).trans rfl
          have uM:wr.cell? ⟨fF,2,none⟩=some (.bool bg):=(af cT.out 2).trans rfl
          have qE:=aa cT.out 0
          have qF:=aa cT.out 1
          have uN:=aa cT.out 2
          have p7: 0≤(dP:Int):=of_decide_eq_true cX
          have q7:dP < (aK.size:Int):=of_decide_eq_true cX
          have C7:=gV aK dP
          replace p7:=eq_true p7
          replace q7:=eq_true q7
          go_wp2
          go_roundg k1
          case measure=>have:=uC.out;omega
          case rel=>exact ⟨(wrap64 (dP + 1)),ey,H',⟨j6⟩,⟨tP⟩,⟨kT⟩⟩
         ·rw [if_neg c12] at H
          have Ct:decide ((bt aK dP)≤57)=false:=decide_eq_false c12
          clear c12
          by_cases c14:(bt aK dP)=45
          ·rw [if_pos c14] at H
           have LU:((bt aK dP) == 45)=true:=beq_iff_eq.mpr c14
           have LV:((bt aK dP) != 45)=false:=bne_eq_false_iff_eq.mpr c14
           clear c14
           by_cases c15:dP > 0
           ·rw [if_pos c15] at H
            have Fj:decide (0 < dP)=true:=decide_eq_true c15
            clear c15
            have H':=ah.mk H
            clear H
            have ni:wr.cell? ⟨fF,0,none⟩=some (.string aK):=(af cT.out 0).trans rfl
            have nj:wr.cell? ⟨fF,1,none⟩=some (.string bf):=(af cT.out 1).trans rfl
            have pP:wr.cell? ⟨fF,2,none⟩=some (.bool bg):=(af cT.out 2).trans rfl
            have nk:=aa cT.out 0
            have nr:=aa cT.out 1
            have pQ:=aa cT.out 2
            have p7: 0≤(dP:Int):=of_decide_eq_true cX
            have q7:dP < (aK.size:Int):=of_decide_eq_true cX
            have C7:=gV aK dP
            replace p7:=eq_true p7
            replace q7:=eq_true q7
            go_wp2
            go_roundg k1
            case measure=>have:=uC.out;omega
            case rel=>exact ⟨(wrap64 (dP + 1)),ey,H',⟨j6⟩,⟨tP⟩,⟨kT⟩⟩
           ·rw [if_neg c15] at H
            have Fj:decide (0 < dP)=false:=decide_eq_false c15
            clear c15
            obtain rfl:=Option.some.inj H
            have tv:wr.cell? ⟨fF,0,none⟩=some (.string aK):=(af cT.out 0).trans rfl
            have tA:wr.cell? ⟨fF,1,none⟩=some (.string bf):=(af cT.out 1).trans rfl
            have Ah:wr.cell? ⟨fF,2,none⟩=some (.bool bg):=(af cT.out 2).trans rfl
            have tB:=aa cT.out 0
            have tC:=aa cT.out 1
            have Ai:=aa cT.out 2
            have p7: 0≤(dP:Int):=of_decide_eq_true cX
            have q7:dP < (aK.size:Int):=of_decide_eq_true cX
            have C7:=gV aK dP
            replace p7:=eq_true p7
            replace q7:=eq_true q7
            go_wp2
            go_ret
            exact ⟨cZ,kT⟩
          ·rw [if_neg c14] at H
           have LU:((bt aK dP) == 45)=false:=beq_eq_false_iff_ne.mpr c14
           have LV:((bt aK dP) != 45)=true:=bne_iff_ne.mpr c14
           obtain rfl:=Option.some.inj H
           have vF:wr.cell? ⟨fF,0,none⟩=some (.string aK):=(af cT.out 0).trans rfl
           have vG:wr.cell? ⟨fF,1,none⟩=some (.string bf):=(af cT.out 1).trans rfl
           have xX:wr.cell? ⟨fF,2,none⟩=some (.bool bg):=(af cT.out 2).trans rfl
           have vH:=aa cT.out 0
           have vI:=aa cT.out 1
           have xY:=aa cT.out 2
           have p7: 0≤(dP:Int):=of_decide_eq_true cX
           have q7:dP < (aK.size:Int):=of_decide_eq_true cX
           have C7:=gV aK dP
           replace p7:=eq_true p7
           replace q7:=eq_true q7
           go_wp2
           go_ret
           exact ⟨cZ,kT⟩
        ·rw [if_neg c11] at H
         have za:decide (48≤(bt aK dP))=false:=decide_eq_false c11
         clear c11
         by_cases c19:(bt aK dP)=45
         ·rw [if_pos c19] at H
          have RX:((bt aK dP) == 45)=true:=beq_iff_eq.mpr c19
          have VE:((bt aK dP) != 45)=false:=bne_eq_false_iff_eq.mpr c19
          clear c19
          by_cases c20:dP > 0
          ·rw [if_pos c20] at H
           have GV:decide (0 < dP)=true:=decide_eq_true c20
           clear c20
           have H':=ah.mk H
           clear H
           have xZ:wr.cell? ⟨fF,0,none⟩=some (.string aK):=(af cT.out 0).trans rfl
           have ya:wr.cell? ⟨fF,1,none⟩=some (.string bf):=(af cT.out 1).trans rfl
           have yc:wr.cell? ⟨fF,2,none⟩=some (.bool bg):=(af cT.out 2).trans rfl
           have yf:=aa cT.out 0
           have yg:=aa cT.out 1
           have yh:=aa cT.out 2
           have p7: 0≤(dP:Int):=of_decide_eq_true cX
           have q7:dP < (aK.size:Int):=of_decide_eq_true cX
           have C7:=gV aK dP
           replace p7:=eq_true p7
           replace q7:=eq_true q7
           go_wp2
           go_roundg k1
           case measure=>have:=uC.out;omega
           case rel=>exact ⟨(wrap64 (dP + 1)),ey,H',⟨j6⟩,⟨tP⟩,⟨kT⟩⟩
          ·rw [if_neg c20] at H
           have GV:decide (0 < dP)=false:=decide_eq_false c20
           clear c20
           obtain rfl:=Option.some.inj H
           have yj:wr.cell? ⟨fF,0,none⟩=some (.string aK):=(af cT.out 0).trans rfl
           have yl:wr.cell? ⟨fF,1,none⟩=some (.string bf):=(af cT.out 1).trans rfl
           have Aj:wr.cell? ⟨fF,2,none⟩=some (.bool bg):=(af cT.out 2).trans rfl
           have ym:=aa cT.out 0
           have yq:=aa cT.out 1
           have Ak:=aa cT.out 2
           have p7: 0≤(dP:Int):=of_decide_eq_true cX
           have q7:dP < (aK.size:Int):=of_decide_eq_true cX
           have C7:=gV aK dP
           replace p7:=eq_true p7
           replace q7:=eq_true q7
           go_wp2
           go_ret
           exact ⟨cZ,kT⟩
         ·rw [if_neg c19] at H
          have RX:((bt aK dP) == 45)=false:=beq_eq_false_iff_ne.mpr c19
          have VE:((bt aK dP) != 45)=true:=bne_iff_ne.mpr c19
          obtain rfl:=Option.some.inj H
          have AV:wr.cell? ⟨fF,0,none⟩=some (.string aK):=(af cT.out 0).trans rfl
          have AW:wr.cell? ⟨fF,1,none⟩=some (.string bf):=(af cT.out 1).trans rfl
          have AX:wr.cell? ⟨fF,2,none⟩=some (.bool bg):=(af cT.out 2).trans rfl
          have AY:=aa cT.out 0
          have AZ:=aa cT.out 1
          have Ba:=aa cT.out 2
          have p7: 0≤(dP:Int):=of_decide_eq_true cX
          have q7:dP < (aK.size:Int):=of_decide_eq_true cX
          have C7:=gV aK dP
          replace p7:=eq_true p7
          replace q7:=eq_true q7
          go_wp2
          go_ret
          exact ⟨cZ,kT⟩
      ·rw [if_neg c8] at H
       have IM:decide (65≤(bt aK dP))=false:=decide_eq_false c8
       clear c8
       by_cases c24:(bt aK dP)≥48
       ·rw [if_pos c24] at H
        have LJ:decide (48≤(bt aK dP))=true:=decide_eq_true c24
        clear c24
        by_cases S0:(bt aK dP)≤57
        ·rw [if_pos S0] at H
         have VF:decide ((bt aK dP)≤57)=true:=decide_eq_true S0
         clear S0
         have H':=ah.mk H
         clear H
         have DJ:wr.cell? ⟨fF,0,none⟩=some (.string aK):=(af cT.out 0).trans rfl
         have DK:wr.cell? ⟨fF,1,none⟩=some (.string bf):=(af cT.out 1).trans rfl
         have DL:wr.cell? ⟨fF,2,none⟩=some (.bool bg):=(af cT.out 2).trans rfl
         have DM:=aa cT.out 0
         have DN:=aa cT.out 1
         have DR:=aa cT.out 2
         have p7: 0≤(dP:Int):=of_decide_eq_true cX
         have q7:dP < (aK.size:Int):=of_decide_eq_true cX
         have C7:=gV aK dP
         replace p7:=eq_true p7
         replace q7:=eq_true q7
         go_wp2
         go_roundg k1
         case measure=>have:=uC.out;omega
         case rel=>exact ⟨(wrap64 (dP + 1)),ey,H',⟨j6⟩,⟨tP⟩,⟨kT⟩⟩
        ·rw [if_neg S0] at H
         have VF:decide ((bt aK dP)≤57)=false:=decide_eq_false S0
         clear S0
         by_cases QZ:(bt aK dP)=45
         ·rw [if_pos QZ] at H
          have aaR:((bt aK dP) == 45)=true:=beq_iff_eq.mpr QZ
          have aaS:((bt aK dP) != 45)=false:=bne_eq_false_iff_eq.mpr QZ
          clear QZ
          by_cases c28:dP > 0
          ·rw [if_pos c28] at H
           have GX:decide (0 < dP)=true:=decide_eq_true c28
           clear c28
           have H':=ah.mk H
           clear H
           have DT:wr.cell? ⟨fF,0,none⟩=some (.string aK):=(af cT.out 0).trans rfl
           have DU:wr.cell? ⟨fF,1,none⟩=some (.string bf):=(af cT.out 1).trans rfl
           have I0:wr.cell? ⟨fF,2,none⟩=some (.bool bg):=(af cT.out 2).trans rfl
           have DV:=aa cT.out 0
           have DW:=aa cT.out 1
           have I1:=aa cT.out 2
           have p7: 0≤(dP:Int):=of_decide_eq_true cX
           have q7:dP < (aK.size:Int):=of_decide_eq_true cX
           have C7:=gV aK dP
           replace p7:=eq_true p7
           replace q7:=eq_true q7
           go_wp2
           go_roundg k1
           case measure=>have:=uC.out;omega
           case rel=>exact ⟨(wrap64 (dP + 1)),ey,H',⟨j6⟩,⟨tP⟩,⟨kT⟩⟩
          ·rw [if_neg c28] at H
           have GX:decide (0 < dP)=false:=decide_eq_false c28
           clear c28
           obtain rfl:=Option.some.inj H
           have Qw:wr.cell? ⟨fF,0,none⟩=some (.string aK):=(af cT.out 0).trans rfl
           have Qx:wr.cell? ⟨fF,1,none⟩=some (.string bf):=(af cT.out 1).trans rfl
           have Qy:wr.cell? ⟨fF,2,none⟩=some (.bool bg):=(af cT.out 2).trans rfl
           have Qz:=aa cT.out 0
           have QA:=aa cT.out 1
           have QB:=aa cT.out 2
           have p7: 0≤(dP:Int):=of_decide_eq_true cX
           have q7:dP < (aK.size:Int):=of_decide_eq_true cX
           have C7:=gV aK dP
           replace p7:=eq_true p7
           replace q7:=eq_true q7
           go_wp2
           go_ret
           exact ⟨cZ,kT⟩
         ·rw [if_neg QZ] at H
          have aaR:((bt aK dP) == 45)=false:=beq_eq_false_iff_ne.mpr QZ
          have aaS:((bt aK dP) != 45)=true:=bne_iff_ne.mpr QZ
          obtain rfl:=Option.some.inj H
          have yD:wr.cell? ⟨fF,0,none⟩=some (.string aK):=(af cT.out 0).trans rfl
          have yE:wr.cell? ⟨fF,1,none⟩=some (.string bf):=(af cT.out 1).trans rfl
          have AR:wr.cell? ⟨fF,2,none⟩=some (.bool bg):=(af cT.out 2).trans rfl
          have yF:=aa cT.out 0
          have yG:=aa cT.out 1
          have AU:=aa cT.out 2
          have p7: 0≤(dP:Int):=of_decide_eq_true cX
          have q7:dP < (aK.size:Int):=of_decide_eq_true cX
          have C7:=gV aK dP
          replace p7:=eq_true p7
          replace q7:=eq_true q7
          go_wp2
          go_ret
          exact ⟨cZ,kT⟩
       ·rw [if_neg c24] at H
        have LJ:decide (48≤(bt aK dP))=false:=decide_eq_false c24
        clear c24
        by_cases Gr:(bt aK dP)=45
        ·rw [if_pos Gr] at H
         have LR:((bt aK dP) == 45)=true:=beq_iff_eq.mpr Gr
         have RY:((bt aK dP) != 45)=false:=bne_eq_false_iff_eq.mpr Gr
         clear Gr
         by_cases JS:dP > 0
         ·rw [if_pos JS] at H
          have Q0:decide (0 < dP)=true:=decide_eq_true JS
          clear JS
          have H':=ah.mk H
          clear H
          have Eu:wr.cell? ⟨fF,0,none⟩=some (.string aK):=(af cT.out 0).trans rfl
          have Ew:wr.cell? ⟨fF,1,none⟩=some (.string bf):=(af cT.out 1).trans rfl
          have Ex:wr.cell? ⟨fF,2,none⟩=some (.bool bg):=(af cT.out 2).trans rfl
          have Ey:=aa cT.out 0
          have Ez:=aa cT.out 1
          have EA:=aa cT.out 2
          have p7: 0≤(dP:Int):=of_decide_eq_true cX
          have q7:dP < (aK.size:Int):=of_decide_eq_true cX
          have C7:=gV aK dP
          replace p7:=eq_true p7
          replace q7:=eq_true q7
          go_wp2
          go_roundg k1
          case measure=>have:=uC.out;omega
          case rel=>exact ⟨(wrap64 (dP + 1)),ey,H',⟨j6⟩,⟨tP⟩,⟨kT⟩⟩
         ·rw [if_neg JS] at H
          have Q0:decide (0 < dP)=false:=decide_eq_false JS
          clear JS
          obtain rfl:=Option.some.inj H
          have Au:wr.cell? ⟨fF,0,none⟩=some (.string aK):=(af cT.out 0).trans rfl
          have Av:wr.cell? ⟨fF,1,none⟩=some (.string bf):=(af cT.out 1).trans rfl
          have Aw:wr.cell? ⟨fF,2,none⟩=some (.bool bg):=(af cT.out 2).trans rfl
          have Ax:=aa cT.out 0
          have Ay:=aa cT.out 1
          have Az:=aa cT.out 2
          have p7: 0≤(dP:Int):=of_decide_eq_true cX
          have q7:dP < (aK.size:Int):=of_decide_eq_true cX
          have C7:=gV aK dP
          replace p7:=eq_true p7
          replace q7:=eq_true q7
          go_wp2
          go_ret
          exact ⟨cZ,kT⟩
        ·rw [if_neg Gr] at H
         have LR:((bt aK dP) == 45)=false:=beq_eq_false_iff_ne.mpr Gr
         have RY:((bt aK dP) != 45)=true:=bne_iff_ne.mpr Gr
         obtain rfl:=Option.some.inj H
         have AA:wr.cell? ⟨fF,0,none⟩=some (.string aK):=(af cT.out 0).trans rfl
         have AB:wr.cell? ⟨fF,1,none⟩=some (.string bf):=(af cT.out 1).trans rfl
         have AE:wr.cell? ⟨fF,2,none⟩=some (.bool bg):=(af cT.out 2).trans rfl
         have AG:=aa cT.out 0
         have AH:=aa cT.out 1
         have AJ:=aa cT.out 2
         have p7: 0≤(dP:Int):=of_decide_eq_true cX
         have q7:dP < (aK.size:Int):=of_decide_eq_true cX
         have C7:=gV aK dP
         replace p7:=eq_true p7
         replace q7:=eq_true q7
         go_wp2
         go_ret
         exact ⟨cZ,kT⟩
     ·rw [if_neg c6] at H
      exact absurd H bn
    ·rw [if_neg c5] at H
     exact absurd H bn
   ·rw [if_neg c4] at H
    have oL:decide (dP < (aK.size:Int))=false:=decide_eq_false c4
    clear c4
    have H':=ah.mk H
    clear H
    have RZ:wr.cell? ⟨fF,0,none⟩=some (.string aK):=(af cT.out 0).trans rfl
    have R3:wr.cell? ⟨fF,1,none⟩=some (.string bf):=(af cT.out 1).trans rfl
    have R4:wr.cell? ⟨fF,2,none⟩=some (.bool bg):=(af cT.out 2).trans rfl
    have R5:=aa cT.out 0
    have R6:=aa cT.out 1
    have R7:=aa cT.out 2
    go_wp2
    go_loopg [44] k1 (fun kq v44 w'=>∃ (kF:Int),v44= .int .i64 kF∧ah (bP.l1 kq (bf.size:Int) kF aK bf bg=some r)∧ah (kq≤k1)∧ah (w'.heap[fF]? =some (.cells #[.string aK,.string bf,.bool bg] 58 (0,0)))∧ah (Below w.heap.size w w'))
    case atStart=>exact ⟨(0),ey,H',⟨Nat.le_refl _⟩,⟨tP⟩,⟨kT⟩⟩
    case round=>
     clear H'
     try clear c1
     try clear c2
     try clear p2
     try clear c3
     try clear c4
     try clear oL
     try clear c5
     try clear tR
     try clear c6
     try clear pF
     try clear p6
     try clear p7
     try clear q7
     try clear C7
     try clear c8
     try clear IM
     try clear c9
     try clear SY
     try clear c11
     try clear za
     try clear c12
     try clear Ct
     try clear c13
     try clear c14
     try clear LU
     try clear LV
     try clear c15
     try clear Fj
     try clear c19
     try clear RX
     try clear VE
     try clear c20
     try clear GV
     try clear c24
     try clear LJ
     try clear S0
     try clear VF
     try clear QZ
     try clear aaR
     try clear aaS
     try clear c28
     try clear GX
     try clear Gr
     try clear LR
     try clear RY
     try clear JS
     try clear Q0
     try clear J2
     try clear J3
     try clear J4
     try clear qC
     try clear qD
     try clear uM
     try clear ni
     try clear nj
     try clear pP
     try clear tv
     try clear tA
     try clear Ah
     try clear vF
     try clear vG
     try clear xX
     try clear xZ
     try clear ya
     try clear yc
     try clear yj
     try clear yl
     try clear Aj
     try clear AV
     try clear AW
     try clear AX
     try clear DJ
     try clear DK
     try clear DL
     try clear DT
     try clear DU
     try clear I0
     try clear Qw
     try clear Qx
     try clear Qy
     try clear yD
     try clear yE
     try clear AR
     try clear Eu
     try clear Ew
     try clear Ex
     try clear Au
     try clear Av
     try clear Aw
     try clear AA
     try clear AB
     try clear AE
     try clear RZ
     try clear R3
     try clear R4
     try clear tS
     try clear tT
     try clear J0
     try clear J5
     try clear J6
     try clear J7
     try clear qE
     try clear qF
     try clear uN
     try clear nk
     try clear nr
     try clear pQ
     try clear tB
     try clear tC
     try clear Ai
     try clear vH
     try clear vI
     try clear xY
     try clear yf
     try clear yg
     try clear yh
     try clear ym
     try clear yq
     try clear Ak
     try clear AY
     try clear AZ
     try clear Ba
     try clear DM
     try clear DN
     try clear DR
     try clear DV
     try clear DW
     try clear I1
     try clear Qz
     try clear QA
     try clear QB
     try clear yF
     try clear yG
     try clear AU
     try clear Ey
     try clear Ez
     try clear EA
     try clear Ax
     try clear Ay
     try clear Az
     try clear AG
     try clear AH
     try clear AJ
     try clear R5
     try clear R6
     try clear R7
     try clear tU
     try clear tV
     try clear J1
     try clear p2
     try clear p7
     try clear q7
     obtain ⟨kF,rfl,HA,Ob,cT,HB⟩:=hrel
     cases gk with
     |zero=>exact absurd HA.out (by simp [bP.l1])
     |succ k2=>
      have H:=HA.out
      clear HA
      simp only [bP.l1] at H
      by_cases T4:kF < (bf.size:Int)
      ·rw [if_pos T4] at H
       have aaT:decide (kF < (bf.size:Int))=true:=decide_eq_true T4
       clear T4
       by_cases c39: 0≤kF
       ·rw [if_pos c39] at H
        have apA:decide (0≤kF)=true:=decide_eq_true c39
        clear c39
        by_cases c40:kF < (bf.size:Int)
        ·rw [if_pos c40] at H
         have apB:decide (kF < (bf.size:Int))=true:=decide_eq_true c40
         clear c40
         by_cases c42:(bt bf kF) < 33
         ·rw [if_pos c42] at H
          have aeZ:decide ((bt bf kF) < 33)=true:=decide_eq_true c42
          clear c42
          obtain rfl:=Option.some.inj H
          have ah9:wr.cell? ⟨fF,0,none⟩=some (.string aK):=(af cT.out 0).trans rfl
          have aia:wr.cell? ⟨fF,1,none⟩=some (.string bf):=(af cT.out 1).trans rfl
          have aib:wr.cell? ⟨fF,2,none⟩=some (.bool bg):=(af cT.out 2).trans rfl
          have aic:=aa cT.out 0
          have aid:=aa cT.out 1
          have aie:=aa cT.out 2
          have VG: 0≤(kF:Int):=of_decide_eq_true cX
          have VH:kF < (bf.size:Int):=of_decide_eq_true cX
          have ab7:=gV bf kF
          replace VG:=eq_true VG
          replace VH:=eq_true VH
          go_wp2
          go_ret
          exact ⟨cZ,kT⟩
         ·rw [if_neg c42] at H
          have aeZ:decide ((bt bf kF) < 33)=false:=decide_eq_false c42
          clear c42
          by_cases c44:(bt bf kF) > 126
          ·rw [if_pos c44] at H
           have ae0:decide (126 < (bt bf kF))=true:=decide_eq_true c44
           clear c44
           obtain rfl:=Option.some.inj H
           have Yf:wr.cell? ⟨fF,0,none⟩=some (.string aK):=(af cT.out 0).trans rfl
           have Yg:wr.cell? ⟨fF,1,none⟩=some (.string bf):=(af cT.out 1).trans rfl
           have Yh:wr.cell? ⟨fF,2,none⟩=some (.bool bg):=(af cT.out 2).trans rfl
           have Yi:=aa cT.out 0
           have Yj:=aa cT.out 1
           have Yk:=aa cT.out 2
           have VG: 0≤(kF:Int):=of_decide_eq_true cX
           have VH:kF < (bf.size:Int):=of_decide_eq_true cX
           have ab7:=gV bf kF
           replace VG:=eq_true VG
           replace VH:=eq_true VH
           go_wp2
           go_ret
           exact ⟨cZ,kT⟩
          ·rw [if_neg c44] at H
           have ae0:decide (126 < (bt bf kF))=false:=decide_eq_false c44
           clear c44
           by_cases c46:(bt bf kF)=61
           ·rw [if_pos c46] at H
            have ae1:((bt bf kF) == 61)=true:=beq_iff_eq.mpr c46
            have ae2:((bt bf kF) != 61)=false:=bne_eq_false_iff_eq.mpr c46
            clear c46
            obtain rfl:=Option.some.inj H
            have YI:wr.cell? ⟨fF,0,none⟩=some (.string aK):=(af cT.out 0).trans rfl
            have YJ:wr.cell? ⟨fF,1,none⟩=some (.string bf):=(af cT.out 1).trans rfl
            have YK:wr.cell? ⟨fF,2,none⟩=some (.bool bg):=(af cT.out 2).trans rfl
            have YL:=aa cT.out 0
            have YM:=aa cT.out 1
            have YN:=aa cT.out 2
            have VG: 0≤(kF:Int):=of_decide_eq_true cX
            have VH:kF < (bf.size:Int):=of_decide_eq_true cX
            have ab7:=gV bf kF
            replace VG:=eq_true VG
            replace VH:=eq_true VH
            go_wp2
            go_ret
            exact ⟨cZ,kT⟩
           ·rw [if_neg c46] at H
            have ae1:((bt bf kF) == 61)=false:=beq_eq_false_iff_ne.mpr c46
            have ae2:((bt bf kF) != 61)=true:=bne_iff_ne.mpr c46
            have H':=ah.mk H
            clear H
            have Yl:wr.cell? ⟨fF,0,none⟩=some (.string aK):=(af cT.out 0).trans rfl
            have Ym:wr.cell? ⟨fF,1,none⟩=some (.string bf):=(af cT.out 1).trans rfl
            have Yn:wr.cell? ⟨fF,2,none⟩=some (.bool bg):=(af cT.out 2).trans rfl
            have Yo:=aa cT.out 0
            have Yp:=aa cT.out 1
            have Yq:=aa cT.out 2
            have VG: 0≤(kF:Int):=of_decide_eq_true cX
            have VH:kF < (bf.size:Int):=of_decide_eq_true cX
            have ab7:=gV bf kF
            replace VG:=eq_true VG
            replace VH:=eq_true VH
            go_wp2
            go_roundg k2
            case measure=>have:=uC.out;have:=Ob.out;omega
            case rel=>exact ⟨(wrap64 (kF + 1)),ey,H',⟨by have:=uC.out;have:=Ob.out;omega⟩,⟨tP⟩,⟨kT⟩⟩
        ·rw [if_neg c40] at H
         exact absurd H bn
       ·rw [if_neg c39] at H
        exact absurd H bn
      ·rw [if_neg T4] at H
       have aaT:decide (kF < (bf.size:Int))=false:=decide_eq_false T4
       clear T4
       by_cases c49:aK.toList=([]:List UInt8)
       ·rw [if_pos c49] at H
        have ae3:(aK.toList == ([]:List UInt8))=true:=beq_iff_eq.mpr c49
        have ae4:(aK.toList != ([]:List UInt8))=false:=bne_eq_false_iff_eq.mpr c49
        clear c49
        obtain rfl:=Option.some.inj H
        have Yr:wr.cell? ⟨fF,0,none⟩=some (.string aK):=(af cT.out 0).trans rfl
        have Yt:wr.cell? ⟨fF,1,none⟩=some (.string bf):=(af cT.out 1).trans rfl
        have Yu:wr.cell? ⟨fF,2,none⟩=some (.bool bg):=(af cT.out 2).trans rfl
        have Yv:=aa cT.out 0
        have Yw:=aa cT.out 1
        have Yx:=aa cT.out 2
        go_wp2
        go_ret
        exact ⟨cZ,kT⟩
       ·rw [if_neg c49] at H
        have ae3:(aK.toList == ([]:List UInt8))=false:=beq_eq_false_iff_ne.mpr c49
        have ae4:(aK.toList != ([]:List UInt8))=true:=bne_iff_ne.mpr c49
        obtain rfl:=Option.some.inj H
        have aif:wr.cell? ⟨fF,0,none⟩=some (.string aK):=(af cT.out 0).trans rfl
        have aih:wr.cell? ⟨fF,1,none⟩=some (.string bf):=(af cT.out 1).trans rfl
        have aii:wr.cell? ⟨fF,2,none⟩=some (.bool bg):=(af cT.out 2).trans rfl
        have aij:=aa cT.out 0
        have aik:=aa cT.out 1
        have ail:=aa cT.out 2
        go_wp2
        go_ret
        exact ⟨by first|rfl|(simp [lQ,lR];rw [show (bf.toList != ([]:List UInt8))= !bf.toList.isEmpty from by cases bf.toList<;>rfl];done)|(simp [lQ,lR]<;>rfl)|(simp [*,lQ,lR]<;>rfl),kT⟩
end Go.Proofs.YtokpnfljjjjikaaGreatDoor.nX
