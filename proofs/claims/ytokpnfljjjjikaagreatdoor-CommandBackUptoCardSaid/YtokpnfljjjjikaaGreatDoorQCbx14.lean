import Derived.Test.YtokpnfljjjjikaaGreatDoorZo
import Derived.Test.YtokpnfljjjjikaaGreatDoorQCbx0
import Derived.Test.YtokpnfljjjjikaaGreatDoorQCbx5
import Derived.Test.YtokpnfljjjjikaaGreatDoorQCbx8
import Derived.Test.YtokpnfljjjjikaaGreatDoorQCbx13
import Derived.Test.YtokpnfljjjjikaaGreatDoorESmall
namespace Go.Proofs.YtokpnfljjjjikaaGreatDoor.nX
open Go.RowKit Go.Proofs.aj.bW Go.Proofs.aj.fW Go.Proofs.aj.dz
attribute [local go_sem] jg jh kO kP iK iL ji jk
set_option linter.unusedVariables false
set_option linter.unusedSimpArgs false
def dZ.l0:Nat→Int→Int→ByteArray→ByteArray→Bool→Option (Bool)
 | 0,_,_,_,_,_ =>none
 |k + 1,x6,x7,yJ,vQ,EB=>if x7 < x6 then (if 0≤x7 then (if x7 < (yJ.size:Int) then (if (bt yJ x7) < 32 then (some false) else (if (bt yJ x7) > 126 then (some false) else (dZ.l0 k x6 (wrap64 (x7 + 1)) yJ vQ EB))) else (none)) else (none)) else (if EB=true then ((eF.f k yJ vQ EB).bind fun S5=>(if S5=true then ((bZ.f k vQ).bind fun Gv=>(if Gv=true then ((cC.f vQ).bind fun Bd=>(some (Bd.toList == vQ.toList))) else (some false))) else (some false))) else ((eF.f k yJ vQ EB).bind fun S6=>(if S6=true then ((kG.f k vQ).bind fun Gw=>(some Gw)) else (some false))))
def dZ.f (k:Nat) (aK:ByteArray) (bf:ByteArray) (bg:Bool):Option (Bool):=dZ.l0 k (aK.size:Int) 0 aK bf bg
def dZ.T8:Bool×List (List Nat×List Nat):=(true,[([],[]),([0],[0]),([1,1],[1]),([2],[2]),([3,2],[2,3]),([4,2,2],[2,4]),([2,5],[2,5]),([6,5],[6]),([7],[7]),([8,7],[7,8]),([9,7,7],[7,9]),([7],[7]),([11,7],[7,11]),([10,12,7],[7,10,12]),([7,13],[7,13]),([14,10,0,1,2,3,4,5,6,7,8,9,10,11,12,13,14],[14])])
def dZ.B8:List Nat:=[0,1,3,7,15,31,63,127,255,511,1023,255,2303,8191,16383,32767]
theorem dZ.acN:sx .any (opsOf Tryz.f63 8)=dZ.T8:=by kernel_rfl
theorem dZ.VM:uG dZ.T8.2 dZ.B8=true:=by kernel_rfl
set_option maxHeartbeats 8000000 in
set_option maxRecDepth 100000 in
theorem dZ.calls (k:Nat) (aK:ByteArray) (bf:ByteArray) (bg:Bool) (r:Bool) (w:World) (hG:aT w) (h:dZ.f k aK bf bg=some r):
 Calls Tryz.prog 63 #[.agg #[.string aK,.string bf,.bool bg]] w fun e w'=>e= .returned (.bool r)∧Below w.heap.size w w':=by
 have LI:=Tryz.underlying30
 have HB:=ah.mk (Below.refl w.heap.size w)
 have HG:=ah.mk hG
 clear hG
 have H:(dZ.l0 k (aK.size:Int) 0 aK bf bg)=some r:=h
 clear h
 have H':=ah.mk H
 clear H
 go_enter Tryz.func63,Tryz.ntmps63
 go_wp2_with (first|((with_reducible refine cG (N:=1) rfl ?_);refine cj ?hg (N:=1) ?hd (cs:=#[.string aK,.string bf,.bool bg]) (t:=30) ?hr ?_;(case hd=>rfl);(case hg=>rfl);(case hr=>first|(go_simp;done)|(go_simp;rfl));intro gT hg w2 cJ hb;have bD:=ah.mk (ay cw hb);have bN:=ah.mk (cJ);have cz:=ah.mk ((dK:w.heap.size≤gT));have cY:=ah.mk ((dK:w.heap.size≤gT));clear HB;have HB:=bD;have dF:=bN;have apL:=cz;have adG:=cY;clear bD bN cz cY;clear hb cJ hg;have tS:w2.cell? ⟨gT,0,none⟩=some (.string aK):=(af dF.out 0).trans rfl;have tT:w2.cell? ⟨gT,1,none⟩=some (.string bf):=(af dF.out 1).trans rfl;have J0:w2.cell? ⟨gT,2,none⟩=some (.bool bg):=(af dF.out 2).trans rfl;have tU:=aa dF.out 0;have tV:=aa dF.out 1;have J1:=aa dF.out 2))
 go_loopg [7] k (fun kq v7 w'=>∃ (oz:Int),v7= .int .i64 oz∧ah (dZ.l0 kq (aK.size:Int) oz aK bf bg=some r)∧ah (kq≤k)∧ah (w'.heap[gT]? =some (.cells #[.string aK,.string bf,.bool bg] 30 (0,0)))∧ah (Below w.heap.size w w'))
 case atStart=>exact ⟨(0),ey,H',⟨Nat.le_refl _⟩,⟨rY⟩,⟨kf⟩⟩
 case round=>
  clear H'
  try clear p2
  try clear tS
  try clear tT
  try clear J0
  try clear tU
  try clear tV
  try clear J1
  obtain ⟨oz,rfl,HA,uC,dF,HB⟩:=hrel
  cases gk with
  |zero=>exact absurd HA.out (by simp [dZ.l0])
  |succ k1=>
   have H:=HA.out
   clear HA
   simp only [dZ.l0] at H
   by_cases c4:oz < (aK.size:Int)
   ·rw [if_pos c4] at H
    have oL:decide (oz < (aK.size:Int))=true:=decide_eq_true c4
    clear c4
    by_cases c5: 0≤oz
    ·rw [if_pos c5] at H
     have tR:decide (0≤oz)=true:=decide_eq_true c5
     clear c5
     by_cases c6:oz < (aK.size:Int)
     ·rw [if_pos c6] at H
      have pF:decide (oz < (aK.size:Int))=true:=decide_eq_true c6
      clear c6
      by_cases c8:(bt aK oz) < 32
      ·rw [if_pos c8] at H
       have IM:decide ((bt aK oz) < 32)=true:=decide_eq_true c8
       clear c8
       obtain rfl:=Option.some.inj H
       have qp:wr.cell? ⟨gT,0,none⟩=some (.string aK):=(af dF.out 0).trans rfl
       have qq:wr.cell? ⟨gT,1,none⟩=some (.string bf):=(af dF.out 1).trans rfl
       have wY:wr.cell? ⟨gT,2,none⟩=some (.bool bg):=(af dF.out 2).trans rfl
       have qu:=aa dF.out 0
       have qw:=aa dF.out 1
       have wZ:=aa dF.out 2
       have p7: 0≤(oz:Int):=of_decide_eq_true cX
       have q7:oz < (aK.size:Int):=of_decide_eq_true cX
       have C7:=gV aK oz
       replace p7:=eq_true p7
       replace q7:=eq_true q7
       go_wp2
       go_ret
       exact ⟨cZ,kf⟩
      ·rw [if_neg c8] at H
       have IM:decide ((bt aK oz) < 32)=false:=decide_eq_false c8
       clear c8
       by_cases c11:(bt aK oz) > 126
       ·rw [if_pos c11] at H
        have za:decide (126 < (bt aK oz))=true:=decide_eq_true c11
        clear c11
        obtain rfl:=Option.some.inj H
        have uI:wr.cell? ⟨gT,0,none⟩=some (.string aK):=(af dF.out 0).trans rfl
        have uJ:wr.cell? ⟨gT,1,none⟩=some (.string bf):=(af dF.out 1).trans rfl
        have xQ:wr.cell? ⟨gT,2,none⟩=some (.bool bg):=(af dF.out 2).trans rfl
        have uK:=aa dF.out 0
        have uL:=aa dF.out 1
        have xR:=aa dF.out 2
        have p7: 0≤(oz:Int):=of_decide_eq_true cX
        have q7:oz < (aK.size:Int):=of_decide_eq_true cX
        have C7:=gV aK oz
        replace p7:=eq_true p7
        replace q7:=eq_true q7
        have p10: 0≤(oz:Int):=of_decide_eq_true cX
        have q10:oz < (aK.size:Int):=of_decide_eq_true cX
        have anD:=gV aK oz
        replace p10:=eq_true p10
        replace q10:=eq_true q10
        go_wp2
        go_ret
        exact ⟨cZ,kf⟩
       ·rw [if_neg c11] at H
        have za:decide (126 < (bt aK oz))=false:=decide_eq_false c11
        clear c11
        have H':=ah.mk H
        clear H
        have qC:wr.cell? ⟨gT,0,none⟩=some (.string aK):=(af dF.out 0).trans rfl
        have qD:wr.cell? ⟨gT,1,none⟩=some (.string bf):=(af dF.out 1).trans rfl
        have uM:wr.cell? ⟨gT,2,none⟩=some (.bool bg):=(af dF.out 2).trans rfl
        have qE:=aa dF.out 0
        have qF:=aa dF.out 1
        have uN:=aa dF.out 2
        have p7: 0≤(oz:Int):=of_decide_eq_true cX
        have q7:oz < (aK.size:Int):=of_decide_eq_true cX
        have C7:=gV aK oz
        replace p7:=eq_true p7
        replace q7:=eq_true q7
        have p10: 0≤(oz:Int):=of_decide_eq_true cX
        have q10:oz < (aK.size:Int):=of_decide_eq_true cX
        have anD:=gV aK oz
        replace p10:=eq_true p10
        replace q10:=eq_true q10
        go_wp2
        go_roundg k1
        case measure=>have:=uC.out;omega
        case rel=>exact ⟨(wrap64 (oz + 1)),ey,H',⟨j6⟩,⟨rY⟩,⟨kf⟩⟩
     ·rw [if_neg c6] at H
      exact absurd H bn
    ·rw [if_neg c5] at H
     exact absurd H bn
   ·rw [if_neg c4] at H
    have oL:decide (oz < (aK.size:Int))=false:=decide_eq_false c4
    clear c4
    by_cases c14:bg=true
    ·subst c14
     have H1:((eF.f k1 aK bf true).bind fun S5=>(if S5=true then ((bZ.f k1 bf).bind fun Gv=>(if Gv=true then ((cC.f bf).bind fun Bd=>(some (Bd.toList == bf.toList))) else (some false))) else (some false)))=some r:=by rw [if_pos rfl] at H;exact H
     clear H
     have H:=H1
     clear H1
     replace H:=Option.bind_eq_some_iff.mp H
     obtain ⟨S5,Vi,H⟩:=H
     replace H:(if S5=true then ((bZ.f k1 bf).bind fun Gv=>(if Gv=true then ((cC.f bf).bind fun Bd=>(some (Bd.toList == bf.toList))) else (some false))) else (some false))=some r:=H
     have A15:=ah.mk Vi
     clear Vi
     by_cases c16:S5=true
     ·subst c16
      have H1:((bZ.f k1 bf).bind fun Gv=>(if Gv=true then ((cC.f bf).bind fun Bd=>(some (Bd.toList == bf.toList))) else (some false)))=some r:=by rw [if_pos rfl] at H;exact H
      clear H
      have H:=H1
      clear H1
      replace H:=Option.bind_eq_some_iff.mp H
      obtain ⟨Gv,afb,H⟩:=H
      replace H:(if Gv=true then ((cC.f bf).bind fun Bd=>(some (Bd.toList == bf.toList))) else (some false))=some r:=H
      have A17:=ah.mk afb
      clear afb
      by_cases c18:Gv=true
      ·subst c18
       have H1:((cC.f bf).bind fun Bd=>(some (Bd.toList == bf.toList)))=some r:=by rw [if_pos rfl] at H;exact H
       clear H
       have H:=H1
       clear H1
       replace H:=Option.bind_eq_some_iff.mp H
       obtain ⟨Bd,afc,H⟩:=H
       replace H:(some (Bd.toList == bf.toList))=some r:=H
       have A19:=ah.mk afc
       clear afc
       obtain rfl:=Option.some.inj H
       have En:wr.cell? ⟨gT,0,none⟩=some (.string aK):=(af dF.out 0).trans rfl
       have Eo:wr.cell? ⟨gT,1,none⟩=some (.string bf):=(af dF.out 1).trans rfl
       have YV:wr.cell? ⟨gT,2,none⟩=some (.bool true):=(af dF.out 2).trans rfl
       have Ep:=aa dF.out 0
       have Er:=aa dF.out 1
       have YW:=aa dF.out 2
       try go_wp2
       have bD:=ah.mk (bh dF.out)
       have bN:=ah.mk (bu HB.out)
       clear dF
       clear HB
       have dF:=bD
       have HB:=bN
       clear bD bN
       refine BK (n:=16) (S:=fun w'=>w'.cell? ⟨gT,0,none⟩=some (.string aK)∧w'.cell? ⟨gT,1,none⟩=some (.string bf)∧w'.cell? ⟨gT,2,none⟩=some (.bool true)) (ds:=[]) #[false,false,false,false,false,false,false,false,false,false,false,false,false,false,false,false] au (by rfl) (by rfl) ⟨(af dF.out 0).trans rfl,(af dF.out 1).trans rfl,(af dF.out 2).trans rfl⟩ (fun hHeld=>?_);refine ue dZ.acN dZ.VM (fun mg OA=>?_)
       generalize wr.drew=C8 at dF HB hHeld ⊢
       refine nB (i:=0) (N:=some 25) (v:=?_) (a':=?_) #[true,false,false,false,false,false,false,false,false,false,false,false,false,false,false,false] rfl rfl (nC mg.out OA.out au) (fun _ _ _ h=>h) (Or.inl ⟨by rfl,?_⟩) hHeld ?_ ?_
       rotate_left
       ·rintro w' ⟨s0,s1,s2⟩
        go_simp
        with_reducible rfl
       rotate_left
       ·simp only [Act.put,List.setIfInBounds_toArray,List.set_cons_zero,List.set_cons_succ,dB,dD]
        rfl
       refine IG (i:=1) (N:=some 26) #[true,true,false,false,false,false,false,false,false,false,false,false,false,false,false,false] rfl rfl (wM mg.out au) bR (fun K hK=>?_)
       refine Cm Tryz.func58 au rfl #[.agg #[.string aK,.string bf,.bool true]] (by rfl) rfl rfl cV ?_
       with_reducible refine (eF.calls k1 aK bf true true _ ?aX A15.out).mono ?_
       (case aX=>exact aT.below HG.out kf)
       rintro e Gf ⟨rfl,hb⟩
       refine ⟨_,rfl,?_⟩
       have bD:=ah.mk (aJ (g:=gT) (o:= .cells #[.string aK,.string bf,.bool true] 30 (0,0)) rY hb)
       have bN:=ah.mk (ay kf hb)
       clear dF
       clear HB
       have dF:=bD
       have HB:=bN
       clear bD bN
       (try clear hb)
       (try clear hb2)
       (try clear hk)
       (try clear hi)
       refine hK.out _ _ ⟨(af dF.out 0).trans rfl,(af dF.out 1).trans rfl,(af dF.out 2).trans rfl⟩ (fun hHeld=>?_)
       clear hK K
       refine Cl (a':=?_) ?_ ?_
       rotate_left
       ·show Act.put _ (some 26) _=_
        simp only [Act.put,List.setIfInBounds_toArray,List.set_cons_zero,List.set_cons_succ,dB,dD]
        rfl
       refine eP (i:=2) (N:=some 27) (v:=?_) (a':=?_) #[true,true,true,false,false,false,false,false,false,false,false,false,false,false,false,false] rfl rfl (fP mg.out au) (fun _ _ _ h=>h) (Or.inl ⟨by rfl,?_⟩) ?_ ?_
       rotate_left
       ·intro w'
        go_simp
        with_reducible rfl
       rotate_left
       ·simp only [Act.put,List.setIfInBounds_toArray,List.set_cons_zero,List.set_cons_succ,dB,dD]
        rfl
       refine eP (i:=3) (N:=some 28) (v:=?_) (a':=?_) #[true,true,true,true,false,false,false,false,false,false,false,false,false,false,false,false] rfl rfl (fP mg.out au) (fun _ _ _ h=>h) (Or.inl ⟨by rfl,?_⟩) ?_ ?_
       rotate_left
       ·intro w'
        go_simp
        with_reducible rfl
       rotate_left
       ·simp only [Act.put,List.setIfInBounds_toArray,List.set_cons_zero,List.set_cons_succ,dB,dD]
        rfl
       refine nB (i:=4) (N:=some 29) (v:=?_) (a':=?_) #[true,true,true,true,true,false,false,false,false,false,false,false,false,false,false,false] rfl rfl (nC mg.out OA.out au) (fun _ _ _ h=>h) (Or.inl ⟨by rfl,?_⟩) hHeld ?_ ?_
       rotate_left
       ·rintro w' ⟨s0,s1,s2⟩
        go_simp
        with_reducible rfl
       rotate_left
       ·simp only [Act.put,List.setIfInBounds_toArray,List.set_cons_zero,List.set_cons_succ,dB,dD]
        rfl
       refine IG (i:=5) (N:=some 30) #[true,true,true,true,true,true,false,false,false,false,false,false,false,false,false,false] rfl rfl (wM mg.out au) bR (fun K hK=>?_)
       refine Cm Tryz.func27 au rfl #[.string bf] (by rfl) rfl rfl cV ?_
       with_reducible refine (bZ.calls k1 bf true _ ?aX A17.out).mono ?_
       (case aX=>exact aT.below HG.out kf)
       rintro e Mb ⟨rfl,hb⟩
       refine ⟨_,rfl,?_⟩
       have bD:=ah.mk (aJ (g:=gT) (o:= .cells #[.string aK,.string bf,.bool true] 30 (0,0)) rY hb)
       have bN:=ah.mk (ay kf hb)
       clear dF
       clear HB
       have dF:=bD
       have HB:=bN
       clear bD bN
       (try clear hb)
       (try clear hb2)
       (try clear hk)
       (try clear hi)
       refine hK.out _ _ ⟨(af dF.out 0).trans rfl,(af dF.out 1).trans rfl,(af dF.out 2).trans rfl⟩ (fun hHeld=>?_)
       clear hK K
       refine Cl (a':=?_) ?_ ?_
       rotate_left
       ·show Act.put _ (some 30) _=_
        simp only [Act.put,List.setIfInBounds_toArray,List.set_cons_zero,List.set_cons_succ,dB,dD]
        rfl
       refine eP (i:=6) (N:=some 31) (v:=?_) (a':=?_) #[true,true,true,true,true,true,true,false,false,false,false,false,false,false,false,false] rfl rfl (fP mg.out au) (fun _ _ _ h=>h) (Or.inl ⟨by rfl,?_⟩) ?_ ?_
       rotate_left
       ·intro w'
        go_simp
        with_reducible rfl
       rotate_left
       ·simp only [Act.put,List.setIfInBounds_toArray,List.set_cons_zero,List.set_cons_succ,dB,dD]
        rfl
       refine eP (i:=7) (N:=some 32) (v:=?_) (a':=?_) #[true,true,true,true,true,true,true,true,false,false,false,false,false,false,false,false] rfl rfl (fP mg.out au) (fun _ _ _ h=>h) (Or.inl ⟨by rfl,?_⟩) ?_ ?_
       rotate_left
       ·intro w'
        go_simp
        with_reducible rfl
       rotate_left
       ·simp only [Act.put,List.setIfInBounds_toArray,List.set_cons_zero,List.set_cons_succ,dB,dD]
        rfl
       refine eP (i:=8) (N:=some 33) (v:=?_) (a':=?_) #[true,true,true,true,true,true,true,true,true,false,false,false,false,false,false,false] rfl rfl (fP mg.out au) (fun _ _ _ h=>h) (Or.inl ⟨by rfl,?_⟩) ?_ ?_
       rotate_left
       ·intro w'
        go_simp
        with_reducible rfl
       rotate_left
       ·simp only [Act.put,List.setIfInBounds_toArray,List.set_cons_zero,List.set_cons_succ,dB,dD]
        rfl
       refine eP (i:=11) (N:=some 36) (v:=?_) (a':=?_) #[true,true,true,true,true,true,true,true,true,false,false,true,false,false,false,false] rfl rfl (fP mg.out au) (fun _ _ _ h=>h) (Or.inl ⟨by rfl,?_⟩) ?_ ?_
       rotate_left
       ·intro w'
        go_simp
        with_reducible rfl
       rotate_left
       ·simp only [Act.put,List.setIfInBounds_toArray,List.set_cons_zero,List.set_cons_succ,dB,dD]
        rfl
       refine nB (i:=9) (N:=some 34) (v:=?_) (a':=?_) #[true,true,true,true,true,true,true,true,true,true,false,true,false,false,false,false] rfl rfl (nC mg.out OA.out au) (fun _ _ _ h=>h) (Or.inl ⟨by rfl,?_⟩) hHeld ?_ ?_
       rotate_left
       ·rintro w' ⟨s0,s1,s2⟩
        go_simp
        with_reducible rfl
       rotate_left
       ·simp only [Act.put,List.setIfInBounds_toArray,List.set_cons_zero,List.set_cons_succ,dB,dD]
        rfl
       refine nB (i:=12) (N:=some 37) (v:=?_) (a':=?_) #[true,true,true,true,true,true,true,true,true,true,false,true,true,false,false,false] rfl rfl (nC mg.out OA.out au) (fun _ _ _ h=>h) (Or.inl ⟨by rfl,?_⟩) hHeld ?_ ?_
       rotate_left
       ·rintro w' ⟨s0,s1,s2⟩
        go_simp
        with_reducible rfl
       rotate_left
       ·simp only [Act.put,List.setIfInBounds_toArray,List.set_cons_zero,List.set_cons_succ,dB,dD]
        rfl
       refine IG (i:=10) (N:=some 35) #[true,true,true,true,true,true,true,true,true,true,true,true,true,false,false,false] rfl rfl (wM mg.out au) bR (fun K hK=>?_)
       refine Cm Tryz.func81 au rfl #[.string bf] (by rfl) rfl rfl cV ?_
       with_reducible refine (cC.calls bf Bd _ A19.out).mono ?_
       rintro e KB ⟨rfl,hb⟩
       refine ⟨_,rfl,?_⟩
       have bD:=ah.mk (aJ (g:=gT) (o:= .cells #[.string aK,.string bf,.bool true] 30 (0,0)) rY hb)
       have bN:=ah.mk (ay kf hb)
       clear dF
       clear HB
       have dF:=bD
       have HB:=bN
       clear bD bN
       (try clear hb)
       (try clear hb2)
       (try clear hk)
       (try clear hi)
       refine hK.out _ _ ⟨(af dF.out 0).trans rfl,(af dF.out 1).trans rfl,(af dF.out 2).trans rfl⟩ (fun hHeld=>?_)
       clear hK K
       refine Cl (a':=?_) ?_ ?_
       rotate_left
       ·show Act.put _ (some 35) _=_
        simp only [Act.put,List.setIfInBounds_toArray,List.set_cons_zero,List.set_cons_succ,dB,dD]
        rfl
       refine eP (i:=13) (N:=some 38) (v:=?_) (a':=?_) #[true,true,true,true,true,true,true,true,true,true,true,true,true,true,false,false] rfl rfl (fP mg.out au) (fun _ _ _ h=>h) (Or.inl ⟨by rfl,?_⟩) ?_ ?_
       rotate_left
       ·intro w'
        go_simp
        with_reducible rfl
       rotate_left
       ·simp only [Act.put,List.setIfInBounds_toArray,List.set_cons_zero,List.set_cons_succ,dB,dD]
        rfl
       refine eP (i:=14) (N:=some 39) (v:=?_) (a':=?_) #[true,true,true,true,true,true,true,true,true,true,true,true,true,true,true,false] rfl rfl (fP mg.out au) (fun _ _ _ h=>h) (Or.inl ⟨by rfl,?_⟩) ?_ ?_
       rotate_left
       ·intro w'
        go_simp
        with_reducible rfl
       rotate_left
       ·simp only [Act.put,List.setIfInBounds_toArray,List.set_cons_zero,List.set_cons_succ,dB,dD]
        rfl
       refine eP (i:=15) (N:=some 2) (v:=?_) (a':=?_) #[true,true,true,true,true,true,true,true,true,true,true,true,true,true,true,true] rfl rfl (fP mg.out au) (fun _ _ _ h=>h) (Or.inl ⟨by rfl,?_⟩) ?_ ?_
       rotate_left
       ·intro w'
        go_simp
        with_reducible rfl
       rotate_left
       ·simp only [Act.put,List.setIfInBounds_toArray,List.set_cons_zero,List.set_cons_succ,dB,dD]
        rfl
       refine GN (zP mg.out au) ?_
       try go_wp2
       go_ret
       exact ⟨cZ,kf⟩
      ·replace c18:=Bool.eq_false_iff.mpr c18
       subst c18
       have H1:(some false)=some r:=by rw [if_neg (show ¬ (false=true) by decide)] at H;exact H
       clear H
       have H:=H1
       clear H1
       obtain rfl:=Option.some.inj H
       have tD:wr.cell? ⟨gT,0,none⟩=some (.string aK):=(af dF.out 0).trans rfl
       have tE:wr.cell? ⟨gT,1,none⟩=some (.string bf):=(af dF.out 1).trans rfl
       have tF:wr.cell? ⟨gT,2,none⟩=some (.bool true):=(af dF.out 2).trans rfl
       have tG:=aa dF.out 0
       have tH:=aa dF.out 1
       have tI:=aa dF.out 2
       try go_wp2
       have bD:=ah.mk (bh dF.out)
       have bN:=ah.mk (bu HB.out)
       clear dF
       clear HB
       have dF:=bD
       have HB:=bN
       clear bD bN
       refine BK (n:=16) (S:=fun w'=>w'.cell? ⟨gT,0,none⟩=some (.string aK)∧w'.cell? ⟨gT,1,none⟩=some (.string bf)∧w'.cell? ⟨gT,2,none⟩=some (.bool true)) (ds:=[]) #[false,false,false,false,false,false,false,false,false,false,false,false,false,false,false,false] au (by rfl) (by rfl) ⟨(af dF.out 0).trans rfl,(af dF.out 1).trans rfl,(af dF.out 2).trans rfl⟩ (fun hHeld=>?_);refine ue dZ.acN dZ.VM (fun mg OA=>?_)
       generalize wr.drew=zG at dF HB hHeld ⊢
       refine nB (i:=0) (N:=some 25) (v:=?_) (a':=?_) #[true,false,false,false,false,false,false,false,false,false,false,false,false,false,false,false] rfl rfl (nC mg.out OA.out au) (fun _ _ _ h=>h) (Or.inl ⟨by rfl,?_⟩) hHeld ?_ ?_
       rotate_left
       ·rintro w' ⟨s0,s1,s2⟩
        go_simp
        with_reducible rfl
       rotate_left
       ·simp only [Act.put,List.setIfInBounds_toArray,List.set_cons_zero,List.set_cons_succ,dB,dD]
        rfl
       refine IG (i:=1) (N:=some 26) #[true,true,false,false,false,false,false,false,false,false,false,false,false,false,false,false] rfl rfl (wM mg.out au) bR (fun K hK=>?_)
       refine Cm Tryz.func58 au rfl #[.agg #[.string aK,.string bf,.bool true]] (by rfl) rfl rfl cV ?_
       with_reducible refine (eF.calls k1 aK bf true true _ ?aX A15.out).mono ?_
       (case aX=>exact aT.below HG.out kf)
       rintro e JY ⟨rfl,hb⟩
       refine ⟨_,rfl,?_⟩
       have bD:=ah.mk (aJ (g:=gT) (o:= .cells #[.string aK,.string bf,.bool true] 30 (0,0)) rY hb)
       have bN:=ah.mk (ay kf hb)
       clear dF
       clear HB
       have dF:=bD
       have HB:=bN
       clear bD bN
       (try clear hb)
       (try clear hb2)
       (try clear hk)
       (try clear hi)
       refine hK.out _ _ ⟨(af dF.out 0).trans rfl,(af dF.out 1).trans rfl,(af dF.out 2).trans rfl⟩ (fun hHeld=>?_)
       clear hK K
       refine Cl (a':=?_) ?_ ?_
       rotate_left
       ·show Act.put _ (some 26) _=_
        simp only [Act.put,List.setIfInBounds_toArray,List.set_cons_zero,List.set_cons_succ,dB,dD]
        rfl
       refine eP (i:=2) (N:=some 27) (v:=?_) (a':=?_) #[true,true,true,false,false,false,false,false,false,false,false,false,false,false,false,false] rfl rfl (fP mg.out au) (fun _ _ _ h=>h) (Or.inl ⟨by rfl,?_⟩) ?_ ?_
       rotate_left
       ·intro w'
        go_simp
        with_reducible rfl
       rotate_left
       ·simp only [Act.put,List.setIfInBounds_toArray,List.set_cons_zero,List.set_cons_succ,dB,dD]
        rfl
       refine eP (i:=3) (N:=some 28) (v:=?_) (a':=?_) #[true,true,true,true,false,false,false,false,false,false,false,false,false,false,false,false] rfl rfl (fP mg.out au) (fun _ _ _ h=>h) (Or.inl ⟨by rfl,?_⟩) ?_ ?_
       rotate_left
       ·intro w'
        go_simp
        with_reducible rfl
       rotate_left
       ·simp only [Act.put,List.setIfInBounds_toArray,List.set_cons_zero,List.set_cons_succ,dB,dD]
        rfl
       refine nB (i:=4) (N:=some 29) (v:=?_) (a':=?_) #[true,true,true,true,true,false,false,false,false,false,false,false,false,false,false,false] rfl rfl (nC mg.out OA.out au) (fun _ _ _ h=>h) (Or.inl ⟨by rfl,?_⟩) hHeld ?_ ?_
       rotate_left
       ·rintro w' ⟨s0,s1,s2⟩
        go_simp
        with_reducible rfl
       rotate_left
       ·simp only [Act.put,List.setIfInBounds_toArray,List.set_cons_zero,List.set_cons_succ,dB,dD]
        rfl
       refine IG (i:=5) (N:=some 30) #[true,true,true,true,true,true,false,false,false,false,false,false,false,false,false,false] rfl rfl (wM mg.out au) bR (fun K hK=>?_)
       refine Cm Tryz.func27 au rfl #[.string bf] (by rfl) rfl rfl cV ?_
       with_reducible refine (bZ.calls k1 bf false _ ?aX A17.out).mono ?_
       (case aX=>exact aT.below HG.out kf)
       rintro e w28 ⟨rfl,hb⟩
       refine ⟨_,rfl,?_⟩
       have bD:=ah.mk (aJ (g:=gT) (o:= .cells #[.string aK,.string bf,.bool true] 30 (0,0)) rY hb)
       have bN:=ah.mk (ay kf hb)
       clear dF
       clear HB
       have dF:=bD
       have HB:=bN
       clear bD bN
       (try clear hb)
       (try clear hb2)
       (try clear hk)
       (try clear hi)
       refine hK.out _ _ ⟨(af dF.out 0).trans rfl,(af dF.out 1).trans rfl,(af dF.out 2).trans rfl⟩ (fun hHeld=>?_)
       clear hK K
       refine Cl (a':=?_) ?_ ?_
       rotate_left
       ·show Act.put _ (some 30) _=_
        simp only [Act.put,List.setIfInBounds_toArray,List.set_cons_zero,List.set_cons_succ,dB,dD]
        rfl
       refine eP (i:=6) (N:=some 31) (v:=?_) (a':=?_) #[true,true,true,true,true,true,true,false,false,false,false,false,false,false,false,false] rfl rfl (fP mg.out au) (fun _ _ _ h=>h) (Or.inl ⟨by rfl,?_⟩) ?_ ?_
       rotate_left
       ·intro w'
        go_simp
        with_reducible rfl
       rotate_left
       ·simp only [Act.put,List.setIfInBounds_toArray,List.set_cons_zero,List.set_cons_succ,dB,dD]
        rfl
       refine eP (i:=7) (N:=some 32) (v:=?_) (a':=?_) #[true,true,true,true,true,true,true,true,false,false,false,false,false,false,false,false] rfl rfl (fP mg.out au) (fun _ _ _ h=>h) (Or.inl ⟨by rfl,?_⟩) ?_ ?_
       rotate_left
       ·intro w'
        go_simp
        with_reducible rfl
       rotate_left
       ·simp only [Act.put,List.setIfInBounds_toArray,List.set_cons_zero,List.set_cons_succ,dB,dD]
        rfl
       refine eP (i:=8) (N:=some 33) (v:=undef) (a':=?_) #[true,true,true,true,true,true,true,true,true,false,false,false,false,false,false,false] rfl rfl (fP mg.out au) (fun _ _ _ h=>h) (Or.inr ⟨by rfl,rfl⟩) ?_ ?_
       rotate_left
       ·simp only [Act.put,List.setIfInBounds_toArray,List.set_cons_zero,List.set_cons_succ,dB,dD]
        rfl
       refine eP (i:=9) (N:=some 34) (v:=undef) (a':=?_) #[true,true,true,true,true,true,true,true,true,true,false,false,false,false,false,false] rfl rfl (fP mg.out au) (fun _ _ _ h=>h) (Or.inr ⟨by rfl,rfl⟩) ?_ ?_
       rotate_left
       ·simp only [Act.put,List.setIfInBounds_toArray,List.set_cons_zero,List.set_cons_succ,dB,dD]
        rfl
       refine eP (i:=10) (N:=some 35) (v:=undef) (a':=?_) #[true,true,true,true,true,true,true,true,true,true,true,false,false,false,false,false] rfl rfl (fP mg.out au) (fun _ _ _ h=>h) (Or.inr ⟨by rfl,rfl⟩) ?_ ?_
       rotate_left
       ·simp only [Act.put,List.setIfInBounds_toArray,List.set_cons_zero,List.set_cons_succ,dB,dD]
        rfl
       refine eP (i:=11) (N:=some 36) (v:=undef) (a':=?_) #[true,true,true,true,true,true,true,true,true,true,true,true,false,false,false,false] rfl rfl (fP mg.out au) (fun _ _ _ h=>h) (Or.inr ⟨by rfl,rfl⟩) ?_ ?_
       rotate_left
       ·simp only [Act.put,List.setIfInBounds_toArray,List.set_cons_zero,List.set_cons_succ,dB,dD]
        rfl
       refine eP (i:=12) (N:=some 37) (v:=undef) (a':=?_) #[true,true,true,true,true,true,true,true,true,true,true,true,true,false,false,false] rfl rfl (fP mg.out au) (fun _ _ _ h=>h) (Or.inr ⟨by rfl,rfl⟩) ?_ ?_
       rotate_left
       ·simp only [Act.put,List.setIfInBounds_toArray,List.set_cons_zero,List.set_cons_succ,dB,dD]
        rfl
       refine eP (i:=13) (N:=some 38) (v:=undef) (a':=?_) #[true,true,true,true,true,true,true,true,true,true,true,true,true,true,false,false] rfl rfl (fP mg.out au) (fun _ _ _ h=>h) (Or.inr ⟨by rfl,rfl⟩) ?_ ?_
       rotate_left
       ·simp only [Act.put,List.setIfInBounds_toArray,List.set_cons_zero,List.set_cons_succ,dB,dD]
        rfl
       refine eP (i:=14) (N:=some 39) (v:=?_) (a':=?_) #[true,true,true,true,true,true,true,true,true,true,true,true,true,true,true,false] rfl rfl (fP mg.out au) (fun _ _ _ h=>h) (Or.inl ⟨by rfl,?_⟩) ?_ ?_
       rotate_left
       ·intro w'
        go_simp
        with_reducible rfl
       rotate_left
       ·simp only [Act.put,List.setIfInBounds_toArray,List.set_cons_zero,List.set_cons_succ,dB,dD]
        rfl
       refine eP (i:=15) (N:=some 2) (v:=?_) (a':=?_) #[true,true,true,true,true,true,true,true,true,true,true,true,true,true,true,true] rfl rfl (fP mg.out au) (fun _ _ _ h=>h) (Or.inl ⟨by rfl,?_⟩) ?_ ?_
       rotate_left
       ·intro w'
        go_simp
        with_reducible rfl
       rotate_left
       ·simp only [Act.put,List.setIfInBounds_toArray,List.set_cons_zero,List.set_cons_succ,dB,dD]
        rfl
       refine GN (zP mg.out au) ?_
       try go_wp2
       go_ret
       exact ⟨cZ,kf⟩
     ·replace c16:=Bool.eq_false_iff.mpr c16
      subst c16
      have H1:(some false)=some r:=by rw [if_neg (show ¬ (false=true) by decide)] at H;exact H
      clear H
      have H:=H1
      clear H1
      obtain rfl:=Option.some.inj H
      have DT:wr.cell? ⟨gT,0,none⟩=some (.string aK):=(af dF.out 0).trans rfl
      have DU:wr.cell? ⟨gT,1,none⟩=some (.string bf):=(af dF.out 1).trans rfl
      have I0:wr.cell? ⟨gT,2,none⟩=some (.bool true):=(af dF.out 2).trans rfl
      have DV:=aa dF.out 0
      have DW:=aa dF.out 1
      have I1:=aa dF.out 2
      try go_wp2
      have bD:=ah.mk (bh dF.out)
      have bN:=ah.mk (bu HB.out)
      clear dF
      clear HB
      have dF:=bD
      have HB:=bN
      clear bD bN
      refine BK (n:=16) (S:=fun w'=>w'.cell? ⟨gT,0,none⟩=some (.string aK)∧w'.cell? ⟨gT,1,none⟩=some (.string bf)∧w'.cell? ⟨gT,2,none⟩=some (.bool true)) (ds:=[]) #[false,false,false,false,false,false,false,false,false,false,false,false,false,false,false,false] au (by rfl) (by rfl) ⟨(af dF.out 0).trans rfl,(af dF.out 1).trans rfl,(af dF.out 2).trans rfl⟩ (fun hHeld=>?_);refine ue dZ.acN dZ.VM (fun mg OA=>?_)
      generalize wr.drew=w30 at dF HB hHeld ⊢
      refine nB (i:=0) (N:=some 25) (v:=?_) (a':=?_) #[true,false,false,false,false,false,false,false,false,false,false,false,false,false,false,false] rfl rfl (nC mg.out OA.out au) (fun _ _ _ h=>h) (Or.inl ⟨by rfl,?_⟩) hHeld ?_ ?_
      rotate_left
      ·rintro w' ⟨s0,s1,s2⟩
       go_simp
       with_reducible rfl
      rotate_left
      ·simp only [Act.put,List.setIfInBounds_toArray,List.set_cons_zero,List.set_cons_succ,dB,dD]
       rfl
      refine IG (i:=1) (N:=some 26) #[true,true,false,false,false,false,false,false,false,false,false,false,false,false,false,false] rfl rfl (wM mg.out au) bR (fun K hK=>?_)
      refine Cm Tryz.func58 au rfl #[.agg #[.string aK,.string bf,.bool true]] (by rfl) rfl rfl cV ?_
      with_reducible refine (eF.calls k1 aK bf true false _ ?aX A15.out).mono ?_
      (case aX=>exact aT.below HG.out kf)
      rintro e NB ⟨rfl,hb⟩
      refine ⟨_,rfl,?_⟩
      have bD:=ah.mk (aJ (g:=gT) (o:= .cells #[.string aK,.string bf,.bool true] 30 (0,0)) rY hb)
      have bN:=ah.mk (ay kf hb)
      clear dF
      clear HB
      have dF:=bD
      have HB:=bN
      clear bD bN
      (try clear hb)
      (try clear hb2)
      (try clear hk)
      (try clear hi)
      refine hK.out _ _ ⟨(af dF.out 0).trans rfl,(af dF.out 1).trans rfl,(af dF.out 2).trans rfl⟩ (fun hHeld=>?_)
      clear hK K
      refine Cl (a':=?_) ?_ ?_
      rotate_left
      ·show Act.put _ (some 26) _=_
       simp only [Act.put,List.setIfInBounds_toArray,List.set_cons_zero,List.set_cons_succ,dB,dD]
       rfl
      refine eP (i:=2) (N:=some 27) (v:=?_) (a':=?_) #[true,true,true,false,false,false,false,false,false,false,false,false,false,false,false,false] rfl rfl (fP mg.out au) (fun _ _ _ h=>h) (Or.inl ⟨by rfl,?_⟩) ?_ ?_
      rotate_left
      ·intro w'
       go_simp
       with_reducible rfl
      rotate_left
      ·simp only [Act.put,List.setIfInBounds_toArray,List.set_cons_zero,List.set_cons_succ,dB,dD]
       rfl
      refine eP (i:=3) (N:=some 28) (v:=undef) (a':=?_) #[true,true,true,true,false,false,false,false,false,false,false,false,false,false,false,false] rfl rfl (fP mg.out au) (fun _ _ _ h=>h) (Or.inr ⟨by rfl,rfl⟩) ?_ ?_
      rotate_left
      ·simp only [Act.put,List.setIfInBounds_toArray,List.set_cons_zero,List.set_cons_succ,dB,dD]
       rfl
      refine eP (i:=4) (N:=some 29) (v:=undef) (a':=?_) #[true,true,true,true,true,false,false,false,false,false,false,false,false,false,false,false] rfl rfl (fP mg.out au) (fun _ _ _ h=>h) (Or.inr ⟨by rfl,rfl⟩) ?_ ?_
      rotate_left
      ·simp only [Act.put,List.setIfInBounds_toArray,List.set_cons_zero,List.set_cons_succ,dB,dD]
       rfl
      refine eP (i:=5) (N:=some 30) (v:=undef) (a':=?_) #[true,true,true,true,true,true,false,false,false,false,false,false,false,false,false,false] rfl rfl (fP mg.out au) (fun _ _ _ h=>h) (Or.inr ⟨by rfl,rfl⟩) ?_ ?_
      rotate_left
      ·simp only [Act.put,List.setIfInBounds_toArray,List.set_cons_zero,List.set_cons_succ,dB,dD]
       rfl
      refine eP (i:=6) (N:=some 31) (v:=?_) (a':=?_) #[true,true,true,true,true,true,true,false,false,false,false,false,false,false,false,false] rfl rfl (fP mg.out au) (fun _ _ _ h=>h) (Or.inl ⟨by rfl,?_⟩) ?_ ?_
      rotate_left
      ·intro w'
       go_simp
       with_reducible rfl
      rotate_left
      ·simp only [Act.put,List.setIfInBounds_toArray,List.set_cons_zero,List.set_cons_succ,dB,dD]
       rfl
      refine eP (i:=7) (N:=some 32) (v:=?_) (a':=?_) #[true,true,true,true,true,true,true,true,false,false,false,false,false,false,false,false] rfl rfl (fP mg.out au) (fun _ _ _ h=>h) (Or.inl ⟨by rfl,?_⟩) ?_ ?_
      rotate_left
      ·intro w'
       go_simp
       with_reducible rfl
      rotate_left
      ·simp only [Act.put,List.setIfInBounds_toArray,List.set_cons_zero,List.set_cons_succ,dB,dD]
       rfl
      refine eP (i:=8) (N:=some 33) (v:=undef) (a':=?_) #[true,true,true,true,true,true,true,true,true,false,false,false,false,false,false,false] rfl rfl (fP mg.out au) (fun _ _ _ h=>h) (Or.inr ⟨by rfl,rfl⟩) ?_ ?_
      rotate_left
      ·simp only [Act.put,List.setIfInBounds_toArray,List.set_cons_zero,List.set_cons_succ,dB,dD]
       rfl
      refine eP (i:=9) (N:=some 34) (v:=undef) (a':=?_) #[true,true,true,true,true,true,true,true,true,true,false,false,false,false,false,false] rfl rfl (fP mg.out au) (fun _ _ _ h=>h) (Or.inr ⟨by rfl,rfl⟩) ?_ ?_
      rotate_left
      ·simp only [Act.put,List.setIfInBounds_toArray,List.set_cons_zero,List.set_cons_succ,dB,dD]
       rfl
      refine eP (i:=10) (N:=some 35) (v:=undef) (a':=?_) #[true,true,true,true,true,true,true,true,true,true,true,false,false,false,false,false] rfl rfl (fP mg.out au) (fun _ _ _ h=>h) (Or.inr ⟨by rfl,rfl⟩) ?_ ?_
      rotate_left
      ·simp only [Act.put,List.setIfInBounds_toArray,List.set_cons_zero,List.set_cons_succ,dB,dD]
       rfl
      refine eP (i:=11) (N:=some 36) (v:=undef) (a':=?_) #[true,true,true,true,true,true,true,true,true,true,true,true,false,false,false,false] rfl rfl (fP mg.out au) (fun _ _ _ h=>h) (Or.inr ⟨by rfl,rfl⟩) ?_ ?_
      rotate_left
      ·simp only [Act.put,List.setIfInBounds_toArray,List.set_cons_zero,List.set_cons_succ,dB,dD]
       rfl
      refine eP (i:=12) (N:=some 37) (v:=undef) (a':=?_) #[true,true,true,true,true,true,true,true,true,true,true,true,true,false,false,false] rfl rfl (fP mg.out au) (fun _ _ _ h=>h) (Or.inr ⟨by rfl,rfl⟩) ?_ ?_
      rotate_left
      ·simp only [Act.put,List.setIfInBounds_toArray,List.set_cons_zero,List.set_cons_succ,dB,dD]
       rfl
      refine eP (i:=13) (N:=some 38) (v:=undef) (a':=?_) #[true,true,true,true,true,true,true,true,true,true,true,true,true,true,false,false] rfl rfl (fP mg.out au) (fun _ _ _ h=>h) (Or.inr ⟨by rfl,rfl⟩) ?_ ?_
      rotate_left
      ·simp only [Act.put,List.setIfInBounds_toArray,List.set_cons_zero,List.set_cons_succ,dB,dD]
       rfl
      refine eP (i:=14) (N:=some 39) (v:=?_) (a':=?_) #[true,true,true,true,true,true,true,true,true,true,true,true,true,true,true,false] rfl rfl (fP mg.out au) (fun _ _ _ h=>h) (Or.inl ⟨by rfl,?_⟩) ?_ ?_
      rotate_left
      ·intro w'
       go_simp
       with_reducible rfl
      rotate_left
      ·simp only [Act.put,List.setIfInBounds_toArray,List.set_cons_zero,List.set_cons_succ,dB,dD]
       rfl
      refine eP (i:=15) (N:=some 2) (v:=?_) (a':=?_) #[true,true,true,true,true,true,true,true,true,true,true,true,true,true,true,true] rfl rfl (fP mg.out au) (fun _ _ _ h=>h) (Or.inl ⟨by rfl,?_⟩) ?_ ?_
      rotate_left
      ·intro w'
       go_simp
       with_reducible rfl
      rotate_left
      ·simp only [Act.put,List.setIfInBounds_toArray,List.set_cons_zero,List.set_cons_succ,dB,dD]
       rfl
      refine GN (zP mg.out au) ?_
      try go_wp2
      go_ret
      exact ⟨cZ,kf⟩
    ·replace c14:=Bool.eq_false_iff.mpr c14
     subst c14
     have H1:((eF.f k1 aK bf false).bind fun S6=>(if S6=true then ((kG.f k1 bf).bind fun Gw=>(some Gw)) else (some false)))=some r:=by rw [if_neg (show ¬ (false=true) by decide)] at H;exact H
     clear H
     have H:=H1
     clear H1
     replace H:=Option.bind_eq_some_iff.mp H
     obtain ⟨S6,Vk,H⟩:=H
     replace H:(if S6=true then ((kG.f k1 bf).bind fun Gw=>(some Gw)) else (some false))=some r:=H
     have A32:=ah.mk Vk
     clear Vk
     by_cases JS:S6=true
     ·subst JS
      have H1:((kG.f k1 bf).bind fun Gw=>(some Gw))=some r:=by rw [if_pos rfl] at H;exact H
      clear H
      have H:=H1
      clear H1
      replace H:=Option.bind_eq_some_iff.mp H
      obtain ⟨Gw,Vh,H⟩:=H
      replace H:(some Gw)=some r:=H
      have A34:=ah.mk Vh
      clear Vh
      obtain rfl:=Option.some.inj H
      have Au:wr.cell? ⟨gT,0,none⟩=some (.string aK):=(af dF.out 0).trans rfl
      have Av:wr.cell? ⟨gT,1,none⟩=some (.string bf):=(af dF.out 1).trans rfl
      have Aw:wr.cell? ⟨gT,2,none⟩=some (.bool false):=(af dF.out 2).trans rfl
      have Ax:=aa dF.out 0
      have Ay:=aa dF.out 1
      have Az:=aa dF.out 2
      go_wp2_with (first|((with_reducible refine aN (f:=58) rfl ?_);refine cr (some 41) rfl rfl Tryz.func58 au rfl #[.agg #[.string aK,.string bf,.bool false]] rfl cV ?_;(with_reducible refine (eF.calls k1 aK bf false true _ ?aX A32.out).mono ?_);(case aX=>exact aT.below HG.out kf);rintro e w36 ⟨rfl,hb⟩;refine ⟨_,rfl,?_⟩;have bD:=ah.mk (aJ (g:=gT) (o:= .cells #[.string aK,.string bf,.bool false] 30 (0,0)) rY hb);have bN:=ah.mk (ay kf hb);clear dF;clear HB;have dF:=bD;have HB:=bN;clear bD bN;(try clear hb);(try clear hb2);(try clear hk);(try clear hi);have RZ:w36.cell? ⟨gT,0,none⟩=some (.string aK):=(af dF.out 0).trans rfl;have R3:w36.cell? ⟨gT,1,none⟩=some (.string bf):=(af dF.out 1).trans rfl;have R4:w36.cell? ⟨gT,2,none⟩=some (.bool false):=(af dF.out 2).trans rfl;have R5:=aa dF.out 0;have R6:=aa dF.out 1;have R7:=aa dF.out 2)|(go_at_call 65;(with_reducible refine (kG.calls k1 bf Gw _ ?aX A34.out).mono ?_);(case aX=>exact aT.below HG.out kf);rintro e TY ⟨rfl,hb⟩;have bD:=ah.mk (aJ (g:=gT) (o:= .cells #[.string aK,.string bf,.bool false] 30 (0,0)) rY hb);have bN:=ah.mk (ay kf hb);clear dF;clear HB;have dF:=bD;have HB:=bN;clear bD bN;(try clear hb);(try clear hb2);(try clear hk);(try clear hi)))
      go_ret
      exact ⟨cZ,kf⟩
     ·replace JS:=Bool.eq_false_iff.mpr JS
      subst JS
      have H1:(some false)=some r:=by rw [if_neg (show ¬ (false=true) by decide)] at H;exact H
      clear H
      have H:=H1
      clear H1
      obtain rfl:=Option.some.inj H
      have AK:wr.cell? ⟨gT,0,none⟩=some (.string aK):=(af dF.out 0).trans rfl
      have AL:wr.cell? ⟨gT,1,none⟩=some (.string bf):=(af dF.out 1).trans rfl
      have Rb:wr.cell? ⟨gT,2,none⟩=some (.bool false):=(af dF.out 2).trans rfl
      have AO:=aa dF.out 0
      have AP:=aa dF.out 1
      have Rc:=aa dF.out 2
      go_wp2_with (first|((with_reducible refine aN (f:=58) rfl ?_);refine cr (some 41) rfl rfl Tryz.func58 au rfl #[.agg #[.string aK,.string bf,.bool false]] rfl cV ?_;(with_reducible refine (eF.calls k1 aK bf false false _ ?aX A32.out).mono ?_);(case aX=>exact aT.below HG.out kf);rintro e w40 ⟨rfl,hb⟩;refine ⟨_,rfl,?_⟩;have bD:=ah.mk (aJ (g:=gT) (o:= .cells #[.string aK,.string bf,.bool false] 30 (0,0)) rY hb);have bN:=ah.mk (ay kf hb);clear dF;clear HB;have dF:=bD;have HB:=bN;clear bD bN;(try clear hb);(try clear hb2);(try clear hk);(try clear hi)))
      go_ret
      exact ⟨cZ,kf⟩
end Go.Proofs.YtokpnfljjjjikaaGreatDoor.nX
