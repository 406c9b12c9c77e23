import Derived.Test.YtokpnfljjjjikaaGreatDoorQCbx13
namespace Go.Proofs.YtokpnfljjjjikaaGreatDoor.n9
open Go.RowKit Go.Proofs.aj.bQ Go.Proofs.aj.gf Go.Proofs.aj.cT
attribute [local go_sem] jt iY kQ kJ iJ iK ju jv
set_option linter.unusedVariables false
set_option linter.unusedSimpArgs false
def dV.l0:Nat→Int→Int→ByteArray→ByteArray→Bool→Option (Bool)
 | 0,_,_,_,_,_ =>none
 |k + 1,x6,x7,Aw,xS,FZ=>if x7 < x6 then (if 0≤x7 then (if x7 < (Aw.size:Int) then (if (bt Aw x7) < 32 then (some false) else (if (bt Aw x7) > 126 then (some false) else (dV.l0 k x6 (wrap64 (x7 + 1)) Aw xS FZ))) else (none)) else (none)) else (if FZ=true then ((eJ.f k Aw xS FZ).bind fun U1=>(if U1=true then ((bZ.f k xS).bind fun IQ=>(if IQ=true then ((cE.f xS).bind fun CV=>(some (CV.toList == xS.toList))) else (some false))) else (some false))) else ((eJ.f k Aw xS FZ).bind fun U2=>(if U2=true then ((kL.f k xS).bind fun IU=>(some IU)) else (some false))))
def dV.f (k:Nat) (aI:ByteArray) (bh:ByteArray) (bn:Bool):Option (Bool):=dV.l0 k (aI.size:Int) 0 aI bh bn
def dV.T8:Bool×List (List Nat×List Nat):=(true,[([],[]),([0],[0]),([1,1],[1]),([2],[2]),([3,2],[2,3]),([4,2,2],[2,4]),([2,5],[2,5]),([6,5],[6]),([7],[7]),([8,7],[7,8]),([9,7,7],[7,9]),([7],[7]),([11,7],[7,11]),([10,12,7],[7,10,12]),([7,13],[7,13]),([14,10,0,1,2,3,4,5,6,7,8,9,10,11,12,13,14],[14])])
def dV.B8:List Nat:=[0,1,3,7,15,31,63,127,255,511,1023,255,2303,8191,16383,32767]
theorem dV.ad2:tA .any (opsOf Tryz.f63 8)=dV.T8:=by kernel_rfl
theorem dV.XS:uC dV.T8.2 dV.B8=true:=by kernel_rfl
set_option maxHeartbeats 8000000 in
set_option maxRecDepth 100000 in
theorem dV.calls (k:Nat) (aI:ByteArray) (bh:ByteArray) (bn:Bool) (r:Bool) (w:World) (hG:aW w) (h:dV.f k aI bh bn=some r):
 Calls Tryz.prog 63 #[.agg #[.string aI,.string bh,.bool bn]] w fun e w'=>e= .returned (.bool r)∧Below w.heap.size w w':=by
 have M4:=Tryz.underlying30
 have HB:=ah.mk (Below.refl w.heap.size w)
 have HG:=ah.mk hG
 clear hG
 have H:(dV.l0 k (aI.size:Int) 0 aI bh bn)=some r:=h
 clear h
 have H':=ah.mk H
 clear H
 go_enter Tryz.func63,Tryz.ntmps63
 go_wp2_with (first|((with_reducible refine cK (N:=1) rfl ?_);refine cu ?hg (N:=1) ?hd (cs:=#[.string aI,.string bh,.bool bn]) (t:=30) ?hr ?_;(case hd=>rfl);(case hg=>rfl);(case hr=>first|(go_simp;done)|(go_simp;rfl));intro gZ hg w2 cM hb;have bI:=ah.mk (az cA hb);have bP:=ah.mk (cM);have cw:=ah.mk ((dW:w.heap.size≤gZ));have cW:=ah.mk ((dW:w.heap.size≤gZ));clear HB;have HB:=bI;have dz:=bP;have aq6:=cw;have ae0:=cW;clear bI bP cw cW;clear hb cM hg;have wh:w2.cell? ⟨gZ,0,none⟩=some (.string aI):=(af dz.out 0).trans rfl;have wj:w2.cell? ⟨gZ,1,none⟩=some (.string bh):=(af dz.out 1).trans rfl;have LD:w2.cell? ⟨gZ,2,none⟩=some (.bool bn):=(af dz.out 2).trans rfl;have wk:=aa dz.out 0;have wm:=aa dz.out 1;have LF:=aa dz.out 2))
 go_loopg [7] k (fun kq v7 w'=>∃ (pz:Int),v7= .int .i64 pz∧ah (dV.l0 kq (aI.size:Int) pz aI bh bn=some r)∧ah (kq≤k)∧ah (w'.heap[gZ]? =some (.cells #[.string aI,.string bh,.bool bn] 30 (0,0)))∧ah (Below w.heap.size w w'))
 case atStart=>exact ⟨(0),dL,H',⟨Nat.le_refl _⟩,⟨tW⟩,⟨ku⟩⟩
 case round=>
  clear H'
  try clear p2
  try clear wh
  try clear wj
  try clear LD
  try clear wk
  try clear wm
  try clear LF
  obtain ⟨pz,rfl,HA,wS,dz,HB⟩:=hrel
  cases gk with
  |zero=>exact absurd HA.out (by simp [dV.l0])
  |succ k1=>
   have H:=HA.out
   clear HA
   simp only [dV.l0] at H
   by_cases c4:pz < (aI.size:Int)
   ·rw [if_pos c4] at H
    have nP:decide (pz < (aI.size:Int))=true:=decide_eq_true c4
    clear c4
    by_cases c5: 0≤pz
    ·rw [if_pos c5] at H
     have vZ:decide (0≤pz)=true:=decide_eq_true c5
     clear c5
     by_cases c6:pz < (aI.size:Int)
     ·rw [if_pos c6] at H
      have oW:decide (pz < (aI.size:Int))=true:=decide_eq_true c6
      clear c6
      by_cases c8:(bt aI pz) < 32
      ·rw [if_pos c8] at H
       have Dy:decide ((bt aI pz) < 32)=true:=decide_eq_true c8
       clear c8
       obtain rfl:=Option.some.inj H
       have rz:wr.cell? ⟨gZ,0,none⟩=some (.string aI):=(af dz.out 0).trans rfl
       have rA:wr.cell? ⟨gZ,1,none⟩=some (.string bh):=(af dz.out 1).trans rfl
       have yY:wr.cell? ⟨gZ,2,none⟩=some (.bool bn):=(af dz.out 2).trans rfl
       have rB:=aa dz.out 0
       have rC:=aa dz.out 1
       have yZ:=aa dz.out 2
       have p7: 0≤(pz:Int):=of_decide_eq_true cO
       have q7:pz < (aI.size:Int):=of_decide_eq_true cO
       have ES:=ig aI pz
       replace p7:=eq_true p7
       replace q7:=eq_true q7
       go_wp2
       go_ret
       exact ⟨cU,ku⟩
      ·rw [if_neg c8] at H
       have Dy:decide ((bt aI pz) < 32)=false:=decide_eq_false c8
       clear c8
       by_cases c11:(bt aI pz) > 126
       ·rw [if_pos c11] at H
        have AY:decide (126 < (bt aI pz))=true:=decide_eq_true c11
        clear c11
        obtain rfl:=Option.some.inj H
        have wW:wr.cell? ⟨gZ,0,none⟩=some (.string aI):=(af dz.out 0).trans rfl
        have wX:wr.cell? ⟨gZ,1,none⟩=some (.string bh):=(af dz.out 1).trans rfl
        have zP:wr.cell? ⟨gZ,2,none⟩=some (.bool bn):=(af dz.out 2).trans rfl
        have wY:=aa dz.out 0
        have wZ:=aa dz.out 1
        have zQ:=aa dz.out 2
        have p7: 0≤(pz:Int):=of_decide_eq_true cO
        have q7:pz < (aI.size:Int):=of_decide_eq_true cO
        have ES:=ig aI pz
        replace p7:=eq_true p7
        replace q7:=eq_true q7
        have p10: 0≤(pz:Int):=of_decide_eq_true cO
        have q10:pz < (aI.size:Int):=of_decide_eq_true cO
        have aoN:=ig aI pz
        replace p10:=eq_true p10
        replace q10:=eq_true q10
        go_wp2
        go_ret
        exact ⟨cU,ku⟩
       ·rw [if_neg c11] at H
        have AY:decide (126 < (bt aI pz))=false:=decide_eq_false c11
        clear c11
        have H':=ah.mk H
        clear H
        have nJ:wr.cell? ⟨gZ,0,none⟩=some (.string aI):=(af dz.out 0).trans rfl
        have nK:wr.cell? ⟨gZ,1,none⟩=some (.string bh):=(af dz.out 1).trans rfl
        have qh:wr.cell? ⟨gZ,2,none⟩=some (.bool bn):=(af dz.out 2).trans rfl
        have nL:=aa dz.out 0
        have nM:=aa dz.out 1
        have qi:=aa dz.out 2
        have p7: 0≤(pz:Int):=of_decide_eq_true cO
        have q7:pz < (aI.size:Int):=of_decide_eq_true cO
        have ES:=ig aI pz
        replace p7:=eq_true p7
        replace q7:=eq_true q7
        have p10: 0≤(pz:Int):=of_decide_eq_true cO
        have q10:pz < (aI.size:Int):=of_decide_eq_true cO
        have aoN:=ig aI pz
        replace p10:=eq_true p10
        replace q10:=eq_true q10
        go_wp2
        go_roundg k1
        case measure=>have:=wS.out;omega
        case rel=>exact ⟨(wrap64 (pz + 1)),dL,H',⟨ko⟩,⟨tW⟩,⟨ku⟩⟩
     ·rw [if_neg c6] at H
      exact absurd H bf
    ·rw [if_neg c5] at H
     exact absurd H bf
   ·rw [if_neg c4] at H
    have nP:decide (pz < (aI.size:Int))=false:=decide_eq_false c4
    clear c4
    by_cases c14:bn=true
    ·subst c14
     have H1:((eJ.f k1 aI bh true).bind fun U1=>(if U1=true then ((bZ.f k1 bh).bind fun IQ=>(if IQ=true then ((cE.f bh).bind fun CV=>(some (CV.toList == bh.toList))) else (some false))) else (some false)))=some r:=by rw [if_pos rfl] at H;exact H
     clear H
     have H:=H1
     clear H1
     replace H:=Option.bind_eq_some_iff.mp H
     obtain ⟨U1,Xl,H⟩:=H
     replace H:(if U1=true then ((bZ.f k1 bh).bind fun IQ=>(if IQ=true then ((cE.f bh).bind fun CV=>(some (CV.toList == bh.toList))) else (some false))) else (some false))=some r:=H
     have A15:=ah.mk Xl
     clear Xl
     by_cases c16:U1=true
     ·subst c16
      have H1:((bZ.f k1 bh).bind fun IQ=>(if IQ=true then ((cE.f bh).bind fun CV=>(some (CV.toList == bh.toList))) else (some false)))=some r:=by rw [if_pos rfl] at H;exact H
      clear H
      have H:=H1
      clear H1
      replace H:=Option.bind_eq_some_iff.mp H
      obtain ⟨IQ,agp,H⟩:=H
      replace H:(if IQ=true then ((cE.f bh).bind fun CV=>(some (CV.toList == bh.toList))) else (some false))=some r:=H
      have A17:=ah.mk agp
      clear agp
      by_cases c18:IQ=true
      ·subst c18
       have H1:((cE.f bh).bind fun CV=>(some (CV.toList == bh.toList)))=some r:=by rw [if_pos rfl] at H;exact H
       clear H
       have H:=H1
       clear H1
       replace H:=Option.bind_eq_some_iff.mp H
       obtain ⟨CV,agq,H⟩:=H
       replace H:(some (CV.toList == bh.toList))=some r:=H
       have A19:=ah.mk agq
       clear agq
       obtain rfl:=Option.some.inj H
       have vJ:wr.cell? ⟨gZ,0,none⟩=some (.string aI):=(af dz.out 0).trans rfl
       have vK:wr.cell? ⟨gZ,1,none⟩=some (.string bh):=(af dz.out 1).trans rfl
       have CW:wr.cell? ⟨gZ,2,none⟩=some (.bool true):=(af dz.out 2).trans rfl
       have vL:=aa dz.out 0
       have vM:=aa dz.out 1
       have CX:=aa dz.out 2
       try go_wp2
       have bI:=ah.mk (aV dz.out)
       have bP:=ah.mk (bq HB.out)
       clear dz
       clear HB
       have dz:=bI
       have HB:=bP
       clear bI bP
       refine Bf (n:=16) (S:=fun w'=>w'.cell? ⟨gZ,0,none⟩=some (.string aI)∧w'.cell? ⟨gZ,1,none⟩=some (.string bh)∧w'.cell? ⟨gZ,2,none⟩=some (.bool true)) (ds:=[]) #[false,false,false,false,false,false,false,false,false,false,false,false,false,false,false,false] av (by rfl) (by rfl) ⟨(af dz.out 0).trans rfl,(af dz.out 1).trans rfl,(af dz.out 2).trans rfl⟩ (fun hHeld=>?_);refine tO dV.ad2 dV.XS (fun lB Ph=>?_)
       generalize wr.drew=w21 at dz HB hHeld ⊢
       refine nR (i:=0) (N:=some 25) (v:=?_) (a':=?_) #[true,false,false,false,false,false,false,false,false,false,false,false,false,false,false,false] rfl rfl (nS lB.out Ph.out av) (fun _ _ _ h=>h) (Or.inl ⟨by rfl,?_⟩) hHeld ?_ ?_
       rotate_left
       ·rintro w' ⟨s0,s1,s2⟩
        go_simp
        with_reducible rfl
       rotate_left
       ·simp only [Act.put,List.setIfInBounds_toArray,List.set_cons_zero,List.set_cons_succ,cS,cV]
        rfl
       refine II (i:=1) (N:=some 26) #[true,true,false,false,false,false,false,false,false,false,false,false,false,false,false,false] rfl rfl (wV lB.out av) bL (fun K hK=>?_)
       refine BV Tryz.func58 av rfl #[.agg #[.string aI,.string bh,.bool true]] (by rfl) rfl rfl cY ?_
       with_reducible refine (eJ.calls k1 aI bh true true _ ?bg A15.out).mono ?_
       (case bg=>exact aW.below HG.out ku)
       rintro e IC ⟨rfl,hb⟩
       refine ⟨_,rfl,?_⟩
       have bI:=ah.mk (aR (g:=gZ) (o:= .cells #[.string aI,.string bh,.bool true] 30 (0,0)) tW hb)
       have bP:=ah.mk (az ku hb)
       clear dz
       clear HB
       have dz:=bI
       have HB:=bP
       clear bI bP
       (try clear hb)
       (try clear hb2)
       (try clear hk)
       (try clear hi)
       refine hK.out _ _ ⟨(af dz.out 0).trans rfl,(af dz.out 1).trans rfl,(af dz.out 2).trans rfl⟩ (fun hHeld=>?_)
       clear hK K
       refine BU (a':=?_) ?_ ?_
       rotate_left
       ·show Act.put _ (some 26) _=_
        simp only [Act.put,List.setIfInBounds_toArray,List.set_cons_zero,List.set_cons_succ,cS,cV]
        rfl
       refine eG (i:=2) (N:=some 27) (v:=?_) (a':=?_) #[true,true,true,false,false,false,false,false,false,false,false,false,false,false,false,false] rfl rfl (fA lB.out av) (fun _ _ _ h=>h) (Or.inl ⟨by rfl,?_⟩) ?_ ?_
       rotate_left
       ·intro w'
        go_simp
        with_reducible rfl
       rotate_left
       ·simp only [Act.put,List.setIfInBounds_toArray,List.set_cons_zero,List.set_cons_succ,cS,cV]
        rfl
       refine eG (i:=3) (N:=some 28) (v:=?_) (a':=?_) #[true,true,true,true,false,false,false,false,false,false,false,false,false,false,false,false] rfl rfl (fA lB.out av) (fun _ _ _ h=>h) (Or.inl ⟨by rfl,?_⟩) ?_ ?_
       rotate_left
       ·intro w'
        go_simp
        with_reducible rfl
       rotate_left
       ·simp only [Act.put,List.setIfInBounds_toArray,List.set_cons_zero,List.set_cons_succ,cS,cV]
        rfl
       refine nR (i:=4) (N:=some 29) (v:=?_) (a':=?_) #[true,true,true,true,true,false,false,false,false,false,false,false,false,false,false,false] rfl rfl (nS lB.out Ph.out av) (fun _ _ _ h=>h) (Or.inl ⟨by rfl,?_⟩) hHeld ?_ ?_
       rotate_left
       ·rintro w' ⟨s0,s1,s2⟩
        go_simp
        with_reducible rfl
       rotate_left
       ·simp only [Act.put,List.setIfInBounds_toArray,List.set_cons_zero,List.set_cons_succ,cS,cV]
        rfl
       refine II (i:=5) (N:=some 30) #[true,true,true,true,true,true,false,false,false,false,false,false,false,false,false,false] rfl rfl (wV lB.out av) bL (fun K hK=>?_)
       refine BV Tryz.func27 av rfl #[.string bh] (by rfl) rfl rfl cY ?_
       with_reducible refine (bZ.calls k1 bh true _ ?bg A17.out).mono ?_
       (case bg=>exact aW.below HG.out ku)
       rintro e NI ⟨rfl,hb⟩
       refine ⟨_,rfl,?_⟩
       have bI:=ah.mk (aR (g:=gZ) (o:= .cells #[.string aI,.string bh,.bool true] 30 (0,0)) tW hb)
       have bP:=ah.mk (az ku hb)
       clear dz
       clear HB
       have dz:=bI
       have HB:=bP
       clear bI bP
       (try clear hb)
       (try clear hb2)
       (try clear hk)
       (try clear hi)
       refine hK.out _ _ ⟨(af dz.out 0).trans rfl,(af dz.out 1).trans rfl,(af dz.out 2).trans rfl⟩ (fun hHeld=>?_)
       clear hK K
       refine BU (a':=?_) ?_ ?_
       rotate_left
       ·show Act.put _ (some 30) _=_
        simp only [Act.put,List.setIfInBounds_toArray,List.set_cons_zero,List.set_cons_succ,cS,cV]
        rfl
       refine eG (i:=6) (N:=some 31) (v:=?_) (a':=?_) #[true,true,true,true,true,true,true,false,false,false,false,false,false,false,false,false] rfl rfl (fA lB.out av) (fun _ _ _ h=>h) (Or.inl ⟨by rfl,?_⟩) ?_ ?_
       rotate_left
       ·intro w'
        go_simp
        with_reducible rfl
       rotate_left
       ·simp only [Act.put,List.setIfInBounds_toArray,List.set_cons_zero,List.set_cons_succ,cS,cV]
        rfl
       refine eG (i:=7) (N:=some 32) (v:=?_) (a':=?_) #[true,true,true,true,true,true,true,true,false,false,false,false,false,false,false,false] rfl rfl (fA lB.out av) (fun _ _ _ h=>h) (Or.inl ⟨by rfl,?_⟩) ?_ ?_
       rotate_left
       ·intro w'
        go_simp
        with_reducible rfl
       rotate_left
       ·simp only [Act.put,List.setIfInBounds_toArray,List.set_cons_zero,List.set_cons_succ,cS,cV]
        rfl
       refine eG (i:=8) (N:=some 33) (v:=?_) (a':=?_) #[true,true,true,true,true,true,true,true,true,false,false,false,false,false,false,false] rfl rfl (fA lB.out av) (fun _ _ _ h=>h) (Or.inl ⟨by rfl,?_⟩) ?_ ?_
       rotate_left
       ·intro w'
        go_simp
        with_reducible rfl
       rotate_left
       ·simp only [Act.put,List.setIfInBounds_toArray,List.set_cons_zero,List.set_cons_succ,cS,cV]
        rfl
       refine eG (i:=11) (N:=some 36) (v:=?_) (a':=?_) #[true,true,true,true,true,true,true,true,true,false,false,true,false,false,false,false] rfl rfl (fA lB.out av) (fun _ _ _ h=>h) (Or.inl ⟨by rfl,?_⟩) ?_ ?_
       rotate_left
       ·intro w'
        go_simp
        with_reducible rfl
       rotate_left
       ·simp only [Act.put,List.setIfInBounds_toArray,List.set_cons_zero,List.set_cons_succ,cS,cV]
        rfl
       refine nR (i:=9) (N:=some 34) (v:=?_) (a':=?_) #[true,true,true,true,true,true,true,true,true,true,false,true,false,false,false,false] rfl rfl (nS lB.out Ph.out av) (fun _ _ _ h=>h) (Or.inl ⟨by rfl,?_⟩) hHeld ?_ ?_
       rotate_left
       ·rintro w' ⟨s0,s1,s2⟩
        go_simp
        with_reducible rfl
       rotate_left
       ·simp only [Act.put,List.setIfInBounds_toArray,List.set_cons_zero,List.set_cons_succ,cS,cV]
        rfl
       refine nR (i:=12) (N:=some 37) (v:=?_) (a':=?_) #[true,true,true,true,true,true,true,true,true,true,false,true,true,false,false,false] rfl rfl (nS lB.out Ph.out av) (fun _ _ _ h=>h) (Or.inl ⟨by rfl,?_⟩) hHeld ?_ ?_
       rotate_left
       ·rintro w' ⟨s0,s1,s2⟩
        go_simp
        with_reducible rfl
       rotate_left
       ·simp only [Act.put,List.setIfInBounds_toArray,List.set_cons_zero,List.set_cons_succ,cS,cV]
        rfl
       refine II (i:=10) (N:=some 35) #[true,true,true,true,true,true,true,true,true,true,true,true,true,false,false,false] rfl rfl (wV lB.out av) bL (fun K hK=>?_)
       refine BV Tryz.func81 av rfl #[.string bh] (by rfl) rfl rfl cY ?_
       with_reducible refine (cE.calls bh CV _ A19.out).mono ?_
       rintro e Mh ⟨rfl,hb⟩
       refine ⟨_,rfl,?_⟩
       have bI:=ah.mk (aR (g:=gZ) (o:= .cells #[.string aI,.string bh,.bool true] 30 (0,0)) tW hb)
       have bP:=ah.mk (az ku hb)
       clear dz
       clear HB
       have dz:=bI
       have HB:=bP
       clear bI bP
       (try clear hb)
       (try clear hb2)
       (try clear hk)
       (try clear hi)
       refine hK.out _ _ ⟨(af dz.out 0).trans rfl,(af dz.out 1).trans rfl,(af dz.out 2).trans rfl⟩ (fun hHeld=>?_)
       clear hK K
       refine BU (a':=?_) ?_ ?_
       rotate_left
       ·show Act.put _ (some 35) _=_
        simp only [Act.put,List.setIfInBounds_toArray,List.set_cons_zero,List.set_cons_succ,cS,cV]
        rfl
       refine eG (i:=13) (N:=some 38) (v:=?_) (a':=?_) #[true,true,true,true,true,true,true,true,true,true,true,true,true,true,false,false] rfl rfl (fA lB.out av) (fun _ _ _ h=>h) (Or.inl ⟨by rfl,?_⟩) ?_ ?_
       rotate_left
       ·intro w'
        go_simp
        with_reducible rfl
       rotate_left
       ·simp only [Act.put,List.setIfInBounds_toArray,List.set_cons_zero,List.set_cons_succ,cS,cV]
        rfl
       refine eG (i:=14) (N:=some 39) (v:=?_) (a':=?_) #[true,true,true,true,true,true,true,true,true,true,true,true,true,true,true,false] rfl rfl (fA lB.out av) (fun _ _ _ h=>h) (Or.inl ⟨by rfl,?_⟩) ?_ ?_
       rotate_left
       ·intro w'
        go_simp
        with_reducible rfl
       rotate_left
       ·simp only [Act.put,List.setIfInBounds_toArray,List.set_cons_zero,List.set_cons_succ,cS,cV]
        rfl
       refine eG (i:=15) (N:=some 2) (v:=?_) (a':=?_) #[true,true,true,true,true,true,true,true,true,true,true,true,true,true,true,true] rfl rfl (fA lB.out av) (fun _ _ _ h=>h) (Or.inl ⟨by rfl,?_⟩) ?_ ?_
       rotate_left
       ·intro w'
        go_simp
        with_reducible rfl
       rotate_left
       ·simp only [Act.put,List.setIfInBounds_toArray,List.set_cons_zero,List.set_cons_succ,cS,cV]
        rfl
       refine Gz (zN lB.out av) ?_
       try go_wp2
       go_ret
       exact ⟨cU,ku⟩
      ·replace c18:=Bool.eq_false_iff.mpr c18
       subst c18
       have H1:(some false)=some r:=by rw [if_neg (show ¬ (false=true) by decide)] at H;exact H
       clear H
       have H:=H1
       clear H1
       obtain rfl:=Option.some.inj H
       have vC:wr.cell? ⟨gZ,0,none⟩=some (.string aI):=(af dz.out 0).trans rfl
       have vD:wr.cell? ⟨gZ,1,none⟩=some (.string bh):=(af dz.out 1).trans rfl
       have vE:wr.cell? ⟨gZ,2,none⟩=some (.bool true):=(af dz.out 2).trans rfl
       have vF:=aa dz.out 0
       have vG:=aa dz.out 1
       have vH:=aa dz.out 2
       try go_wp2
       have bI:=ah.mk (aV dz.out)
       have bP:=ah.mk (bq HB.out)
       clear dz
       clear HB
       have dz:=bI
       have HB:=bP
       clear bI bP
       refine Bf (n:=16) (S:=fun w'=>w'.cell? ⟨gZ,0,none⟩=some (.string aI)∧w'.cell? ⟨gZ,1,none⟩=some (.string bh)∧w'.cell? ⟨gZ,2,none⟩=some (.bool true)) (ds:=[]) #[false,false,false,false,false,false,false,false,false,false,false,false,false,false,false,false] av (by rfl) (by rfl) ⟨(af dz.out 0).trans rfl,(af dz.out 1).trans rfl,(af dz.out 2).trans rfl⟩ (fun hHeld=>?_);refine tO dV.ad2 dV.XS (fun lB Ph=>?_)
       generalize wr.drew=BF at dz HB hHeld ⊢
       refine nR (i:=0) (N:=some 25) (v:=?_) (a':=?_) #[true,false,false,false,false,false,false,false,false,false,false,false,false,false,false,false] rfl rfl (nS lB.out Ph.out av) (fun _ _ _ h=>h) (Or.inl ⟨by rfl,?_⟩) hHeld ?_ ?_
       rotate_left
       ·rintro w' ⟨s0,s1,s2⟩
        go_simp
        with_reducible rfl
       rotate_left
       ·simp only [Act.put,List.setIfInBounds_toArray,List.set_cons_zero,List.set_cons_succ,cS,cV]
        rfl
       refine II (i:=1) (N:=some 26) #[true,true,false,false,false,false,false,false,false,false,false,false,false,false,false,false] rfl rfl (wV lB.out av) bL (fun K hK=>?_)
       refine BV Tryz.func58 av rfl #[.agg #[.string aI,.string bh,.bool true]] (by rfl) rfl rfl cY ?_
       with_reducible refine (eJ.calls k1 aI bh true true _ ?bg A15.out).mono ?_
       (case bg=>exact aW.below HG.out ku)
       rintro e Y9 ⟨rfl,hb⟩
       refine ⟨_,rfl,?_⟩
       have bI:=ah.mk (aR (g:=gZ) (o:= .cells #[.string aI,.string bh,.bool true] 30 (0,0)) tW hb)
       have bP:=ah.mk (az ku hb)
       clear dz
       clear HB
       have dz:=bI
       have HB:=bP
       clear bI bP
       (try clear hb)
       (try clear hb2)
       (try clear hk)
       (try clear hi)
       refine hK.out _ _ ⟨(af dz.out 0).trans rfl,(af dz.out 1).trans rfl,(af dz.out 2).trans rfl⟩ (fun hHeld=>?_)
       clear hK K
       refine BU (a':=?_) ?_ ?_
       rotate_left
       ·show Act.put _ (some 26) _=_
        simp only [Act.put,List.setIfInBounds_toArray,List.set_cons_zero,List.set_cons_succ,cS,cV]
        rfl
       refine eG (i:=2) (N:=some 27) (v:=?_) (a':=?_) #[true,true,true,false,false,false,false,false,false,false,false,false,false,false,false,false] rfl rfl (fA lB.out av) (fun _ _ _ h=>h) (Or.inl ⟨by rfl,?_⟩) ?_ ?_
       rotate_left
       ·intro w'
        go_simp
        with_reducible rfl
       rotate_left
       ·simp only [Act.put,List.setIfInBounds_toArray,List.set_cons_zero,List.set_cons_succ,cS,cV]
        rfl
       refine eG (i:=3) (N:=some 28) (v:=?_) (a':=?_) #[true,true,true,true,false,false,false,false,false,false,false,false,false,false,false,false] rfl rfl (fA lB.out av) (fun _ _ _ h=>h) (Or.inl ⟨by rfl,?_⟩) ?_ ?_
       rotate_left
       ·intro w'
        go_simp
        with_reducible rfl
       rotate_left
       ·simp only [Act.put,List.setIfInBounds_toArray,List.set_cons_zero,List.set_cons_succ,cS,cV]
        rfl
       refine nR (i:=4) (N:=some 29) (v:=?_) (a':=?_) #[true,true,true,true,true,false,false,false,false,false,false,false,false,false,false,false] rfl rfl (nS lB.out Ph.out av) (fun _ _ _ h=>h) (Or.inl ⟨by rfl,?_⟩) hHeld ?_ ?_
       rotate_left
       ·rintro w' ⟨s0,s1,s2⟩
        go_simp
        with_reducible rfl
       rotate_left
       ·simp only [Act.put,List.setIfInBounds_toArray,List.set_cons_zero,List.set_cons_succ,cS,cV]
        rfl
       refine II (i:=5) (N:=some 30) #[true,true,true,true,true,true,false,false,false,false,false,false,false,false,false,false] rfl rfl (wV lB.out av) bL (fun K hK=>?_)
       refine BV Tryz.func27 av rfl #[.string bh] (by rfl) rfl rfl cY ?_
       with_reducible refine (bZ.calls k1 bh false _ ?bg A17.out).mono ?_
       (case bg=>exact aW.below HG.out ku)
       rintro e w28 ⟨rfl,hb⟩
       refine ⟨_,rfl,?_⟩
       have bI:=ah.mk (aR (g:=gZ) (o:= .cells #[.string aI,.string bh,.bool true] 30 (0,0)) tW hb)
       have bP:=ah.mk (az ku hb)
       clear dz
       clear HB
       have dz:=bI
       have HB:=bP
       clear bI bP
       (try clear hb)
       (try clear hb2)
       (try clear hk)
       (try clear hi)
       refine hK.out _ _ ⟨(af dz.out 0).trans rfl,(af dz.out 1).trans rfl,(af dz.out 2).trans rfl⟩ (fun hHeld=>?_)
       clear hK K
       refine BU (a':=?_) ?_ ?_
       rotate_left
       ·show Act.put _ (some 30) _=_
        simp only [Act.put,List.setIfInBounds_toArray,List.set_cons_zero,List.set_cons_succ,cS,cV]
        rfl
       refine eG (i:=6) (N:=some 31) (v:=?_) (a':=?_) #[true,true,true,true,true,true,true,false,false,false,false,false,false,false,false,false] rfl rfl (fA lB.out av) (fun _ _ _ h=>h) (Or.inl ⟨by rfl,?_⟩) ?_ ?_
       rotate_left
       ·intro w'
        go_simp
        with_reducible rfl
       rotate_left
       ·simp only [Act.put,List.setIfInBounds_toArray,List.set_cons_zero,List.set_cons_succ,cS,cV]
        rfl
       refine eG (i:=7) (N:=some 32) (v:=?_) (a':=?_) #[true,true,true,true,true,true,true,true,false,false,false,false,false,false,false,false] rfl rfl (fA lB.out av) (fun _ _ _ h=>h) (Or.inl ⟨by rfl,?_⟩) ?_ ?_
       rotate_left
       ·intro w'
        go_simp
        with_reducible rfl
       rotate_left
       ·simp only [Act.put,List.setIfInBounds_toArray,List.set_cons_zero,List.set_cons_succ,cS,cV]
        rfl
       refine eG (i:=8) (N:=some 33) (v:=undef) (a':=?_) #[true,true,true,true,true,true,true,true,true,false,false,false,false,false,false,false] rfl rfl (fA lB.out av) (fun _ _ _ h=>h) (Or.inr ⟨by rfl,rfl⟩) ?_ ?_
       rotate_left
       ·simp only [Act.put,List.setIfInBounds_toArray,List.set_cons_zero,List.set_cons_succ,cS,cV]
        rfl
       refine eG (i:=9) (N:=some 34) (v:=undef) (a':=?_) #[true,true,true,true,true,true,true,true,true,true,false,false,false,false,false,false] rfl rfl (fA lB.out av) (fun _ _ _ h=>h) (Or.inr ⟨by rfl,rfl⟩) ?_ ?_
       rotate_left
       ·simp only [Act.put,List.setIfInBounds_toArray,List.set_cons_zero,List.set_cons_succ,cS,cV]
        rfl
       refine eG (i:=10) (N:=some 35) (v:=undef) (a':=?_) #[true,true,true,true,true,true,true,true,true,true,true,false,false,false,false,false] rfl rfl (fA lB.out av) (fun _ _ _ h=>h) (Or.inr ⟨by rfl,rfl⟩) ?_ ?_
       rotate_left
       ·simp only [Act.put,List.setIfInBounds_toArray,List.set_cons_zero,List.set_cons_succ,cS,cV]
        rfl
       refine eG (i:=11) (N:=some 36) (v:=undef) (a':=?_) #[true,true,true,true,true,true,true,true,true,true,true,true,false,false,false,false] rfl rfl (fA lB.out av) (fun _ _ _ h=>h) (Or.inr ⟨by rfl,rfl⟩) ?_ ?_
       rotate_left
       ·simp only [Act.put,List.setIfInBounds_toArray,List.set_cons_zero,List.set_cons_succ,cS,cV]
        rfl
       refine eG (i:=12) (N:=some 37) (v:=undef) (a':=?_) #[true,true,true,true,true,true,true,true,true,true,true,true,true,false,false,false] rfl rfl (fA lB.out av) (fun _ _ _ h=>h) (Or.inr ⟨by rfl,rfl⟩) ?_ ?_
       rotate_left
       ·simp only [Act.put,List.setIfInBounds_toArray,List.set_cons_zero,List.set_cons_succ,cS,cV]
        rfl
       refine eG (i:=13) (N:=some 38) (v:=undef) (a':=?_) #[true,true,true,true,true,true,true,true,true,true,true,true,true,true,false,false] rfl rfl (fA lB.out av) (fun _ _ _ h=>h) (Or.inr ⟨by rfl,rfl⟩) ?_ ?_
       rotate_left
       ·simp only [Act.put,List.setIfInBounds_toArray,List.set_cons_zero,List.set_cons_succ,cS,cV]
        rfl
       refine eG (i:=14) (N:=some 39) (v:=?_) (a':=?_) #[true,true,true,true,true,true,true,true,true,true,true,true,true,true,true,false] rfl rfl (fA lB.out av) (fun _ _ _ h=>h) (Or.inl ⟨by rfl,?_⟩) ?_ ?_
       rotate_left
       ·intro w'
        go_simp
        with_reducible rfl
       rotate_left
       ·simp only [Act.put,List.setIfInBounds_toArray,List.set_cons_zero,List.set_cons_succ,cS,cV]
        rfl
       refine eG (i:=15) (N:=some 2) (v:=?_) (a':=?_) #[true,true,true,true,true,true,true,true,true,true,true,true,true,true,true,true] rfl rfl (fA lB.out av) (fun _ _ _ h=>h) (Or.inl ⟨by rfl,?_⟩) ?_ ?_
       rotate_left
       ·intro w'
        go_simp
        with_reducible rfl
       rotate_left
       ·simp only [Act.put,List.setIfInBounds_toArray,List.set_cons_zero,List.set_cons_succ,cS,cV]
        rfl
       refine Gz (zN lB.out av) ?_
       try go_wp2
       go_ret
       exact ⟨cU,ku⟩
     ·replace c16:=Bool.eq_false_iff.mpr c16
      subst c16
      have H1:(some false)=some r:=by rw [if_neg (show ¬ (false=true) by decide)] at H;exact H
      clear H
      have H:=H1
      clear H1
      obtain rfl:=Option.some.inj H
      have Fq:wr.cell? ⟨gZ,0,none⟩=some (.string aI):=(af dz.out 0).trans rfl
      have Fu:wr.cell? ⟨gZ,1,none⟩=some (.string bh):=(af dz.out 1).trans rfl
      have Ky:wr.cell? ⟨gZ,2,none⟩=some (.bool true):=(af dz.out 2).trans rfl
      have Fv:=aa dz.out 0
      have Fw:=aa dz.out 1
      have Kz:=aa dz.out 2
      try go_wp2
      have bI:=ah.mk (aV dz.out)
      have bP:=ah.mk (bq HB.out)
      clear dz
      clear HB
      have dz:=bI
      have HB:=bP
      clear bI bP
      refine Bf (n:=16) (S:=fun w'=>w'.cell? ⟨gZ,0,none⟩=some (.string aI)∧w'.cell? ⟨gZ,1,none⟩=some (.string bh)∧w'.cell? ⟨gZ,2,none⟩=some (.bool true)) (ds:=[]) #[false,false,false,false,false,false,false,false,false,false,false,false,false,false,false,false] av (by rfl) (by rfl) ⟨(af dz.out 0).trans rfl,(af dz.out 1).trans rfl,(af dz.out 2).trans rfl⟩ (fun hHeld=>?_);refine tO dV.ad2 dV.XS (fun lB Ph=>?_)
      generalize wr.drew=w30 at dz HB hHeld ⊢
      refine nR (i:=0) (N:=some 25) (v:=?_) (a':=?_) #[true,false,false,false,false,false,false,false,false,false,false,false,false,false,false,false] rfl rfl (nS lB.out Ph.out av) (fun _ _ _ h=>h) (Or.inl ⟨by rfl,?_⟩) hHeld ?_ ?_
      rotate_left
      ·rintro w' ⟨s0,s1,s2⟩
       go_simp
       with_reducible rfl
      rotate_left
      ·simp only [Act.put,List.setIfInBounds_toArray,List.set_cons_zero,List.set_cons_succ,cS,cV]
       rfl
      refine II (i:=1) (N:=some 26) #[true,true,false,false,false,false,false,false,false,false,false,false,false,false,false,false] rfl rfl (wV lB.out av) bL (fun K hK=>?_)
      refine BV Tryz.func58 av rfl #[.agg #[.string aI,.string bh,.bool true]] (by rfl) rfl rfl cY ?_
      with_reducible refine (eJ.calls k1 aI bh true false _ ?bg A15.out).mono ?_
      (case bg=>exact aW.below HG.out ku)
      rintro e w31 ⟨rfl,hb⟩
      refine ⟨_,rfl,?_⟩
      have bI:=ah.mk (aR (g:=gZ) (o:= .cells #[.string aI,.string bh,.bool true] 30 (0,0)) tW hb)
      have bP:=ah.mk (az ku hb)
      clear dz
      clear HB
      have dz:=bI
      have HB:=bP
      clear bI bP
      (try clear hb)
      (try clear hb2)
      (try clear hk)
      (try clear hi)
      refine hK.out _ _ ⟨(af dz.out 0).trans rfl,(af dz.out 1).trans rfl,(af dz.out 2).trans rfl⟩ (fun hHeld=>?_)
      clear hK K
      refine BU (a':=?_) ?_ ?_
      rotate_left
      ·show Act.put _ (some 26) _=_
       simp only [Act.put,List.setIfInBounds_toArray,List.set_cons_zero,List.set_cons_succ,cS,cV]
       rfl
      refine eG (i:=2) (N:=some 27) (v:=?_) (a':=?_) #[true,true,true,false,false,false,false,false,false,false,false,false,false,false,false,false] rfl rfl (fA lB.out av) (fun _ _ _ h=>h) (Or.inl ⟨by rfl,?_⟩) ?_ ?_
      rotate_left
      ·intro w'
       go_simp
       with_reducible rfl
      rotate_left
      ·simp only [Act.put,List.setIfInBounds_toArray,List.set_cons_zero,List.set_cons_succ,cS,cV]
       rfl
      refine eG (i:=3) (N:=some 28) (v:=undef) (a':=?_) #[true,true,true,true,false,false,false,false,false,false,false,false,false,false,false,false] rfl rfl (fA lB.out av) (fun _ _ _ h=>h) (Or.inr ⟨by rfl,rfl⟩) ?_ ?_
      rotate_left
      ·simp only [Act.put,List.setIfInBounds_toArray,List.set_cons_zero,List.set_cons_succ,cS,cV]
       rfl
      refine eG (i:=4) (N:=some 29) (v:=undef) (a':=?_) #[true,true,true,true,true,false,false,false,false,false,false,false,false,false,false,false] rfl rfl (fA lB.out av) (fun _ _ _ h=>h) (Or.inr ⟨by rfl,rfl⟩) ?_ ?_
      rotate_left
      ·simp only [Act.put,List.setIfInBounds_toArray,List.set_cons_zero,List.set_cons_succ,cS,cV]
       rfl
      refine eG (i:=5) (N:=some 30) (v:=undef) (a':=?_) #[true,true,true,true,true,true,false,false,false,false,false,false,false,false,false,false] rfl rfl (fA lB.out av) (fun _ _ _ h=>h) (Or.inr ⟨by rfl,rfl⟩) ?_ ?_
      rotate_left
      ·simp only [Act.put,List.setIfInBounds_toArray,List.set_cons_zero,List.set_cons_succ,cS,cV]
       rfl
      refine eG (i:=6) (N:=some 31) (v:=?_) (a':=?_) #[true,true,true,true,true,true,true,false,false,false,false,false,false,false,false,false] rfl rfl (fA lB.out av) (fun _ _ _ h=>h) (Or.inl ⟨by rfl,?_⟩) ?_ ?_
      rotate_left
      ·intro w'
       go_simp
       with_reducible rfl
      rotate_left
      ·simp only [Act.put,List.setIfInBounds_toArray,List.set_cons_zero,List.set_cons_succ,cS,cV]
       rfl
      refine eG (i:=7) (N:=some 32) (v:=?_) (a':=?_) #[true,true,true,true,true,true,true,true,false,false,false,false,false,false,false,false] rfl rfl (fA lB.out av) (fun _ _ _ h=>h) (Or.inl ⟨by rfl,?_⟩) ?_ ?_
      rotate_left
      ·intro w'
       go_simp
       with_reducible rfl
      rotate_left
      ·simp only [Act.put,List.setIfInBounds_toArray,List.set_cons_zero,List.set_cons_succ,cS,cV]
       rfl
      refine eG (i:=8) (N:=some 33) (v:=undef) (a':=?_) #[true,true,true,true,true,true,true,true,true,false,false,false,false,false,false,false] rfl rfl (fA lB.out av) (fun _ _ _ h=>h) (Or.inr ⟨by rfl,rfl⟩) ?_ ?_
      rotate_left
      ·simp only [Act.put,List.setIfInBounds_toArray,List.set_cons_zero,List.set_cons_succ,cS,cV]
       rfl
      refine eG (i:=9) (N:=some 34) (v:=undef) (a':=?_) #[true,true,true,true,true,true,true,true,true,true,false,false,false,false,false,false] rfl rfl (fA lB.out av) (fun _ _ _ h=>h) (Or.inr ⟨by rfl,rfl⟩) ?_ ?_
      rotate_left
      ·simp only [Act.put,List.setIfInBounds_toArray,List.set_cons_zero,List.set_cons_succ,cS,cV]
       rfl
      refine eG (i:=10) (N:=some 35) (v:=undef) (a':=?_) #[true,true,true,true,true,true,true,true,true,true,true,false,false,false,false,false] rfl rfl (fA lB.out av) (fun _ _ _ h=>h) (Or.inr ⟨by rfl,rfl⟩) ?_ ?_
      rotate_left
      ·simp only [Act.put,List.setIfInBounds_toArray,List.set_cons_zero,List.set_cons_succ,cS,cV]
       rfl
      refine eG (i:=11) (N:=some 36) (v:=undef) (a':=?_) #[true,true,true,true,true,true,true,true,true,true,true,true,false,false,false,false] rfl rfl (fA lB.out av) (fun _ _ _ h=>h) (Or.inr ⟨by rfl,rfl⟩) ?_ ?_
      rotate_left
      ·simp only [Act.put,List.setIfInBounds_toArray,List.set_cons_zero,List.set_cons_succ,cS,cV]
       rfl
      refine eG (i:=12) (N:=some 37) (v:=undef) (a':=?_) #[true,true,true,true,true,true,true,true,true,true,true,true,true,false,false,false] rfl rfl (fA lB.out av) (fun _ _ _ h=>h) (Or.inr ⟨by rfl,rfl⟩) ?_ ?_
      rotate_left
      ·simp only [Act.put,List.setIfInBounds_toArray,List.set_cons_zero,List.set_cons_succ,cS,cV]
       rfl
      refine eG (i:=13) (N:=some 38) (v:=undef) (a':=?_) #[true,true,true,true,true,true,true,true,true,true,true,true,true,true,false,false] rfl rfl (fA lB.out av) (fun _ _ _ h=>h) (Or.inr ⟨by rfl,rfl⟩) ?_ ?_
      rotate_left
      ·simp only [Act.put,List.setIfInBounds_toArray,List.set_cons_zero,List.set_cons_succ,cS,cV]
       rfl
      refine eG (i:=14) (N:=some 39) (v:=?_) (a':=?_) #[true,true,true,true,true,true,true,true,true,true,true,true,true,true,true,false] rfl rfl (fA lB.out av) (fun _ _ _ h=>h) (Or.inl ⟨by rfl,?_⟩) ?_ ?_
      rotate_left
      ·intro w'
       go_simp
       with_reducible rfl
      rotate_left
      ·simp only [Act.put,List.setIfInBounds_toArray,List.set_cons_zero,List.set_cons_succ,cS,cV]
       rfl
      refine eG (i:=15) (N:=some 2) (v:=?_) (a':=?_) #[true,true,true,true,true,true,true,true,true,true,true,true,true,true,true,true] rfl rfl (fA lB.out av) (fun _ _ _ h=>h) (Or.inl ⟨by rfl,?_⟩) ?_ ?_
      rotate_left
      ·intro w'
       go_simp
       with_reducible rfl
      rotate_left
      ·simp only [Act.put,List.setIfInBounds_toArray,List.set_cons_zero,List.set_cons_succ,cS,cV]
       rfl
      refine Gz (zN lB.out av) ?_
      try go_wp2
      go_ret
      exact ⟨cU,ku⟩
    ·replace c14:=Bool.eq_false_iff.mpr c14
     subst c14
     have H1:((eJ.f k1 aI bh false).bind fun U2=>(if U2=true then ((kL.f k1 bh).bind fun IU=>(some IU)) else (some false)))=some r:=by rw [if_neg (show ¬ (false=true) by decide)] at H;exact H
     clear H
     have H:=H1
     clear H1
     replace H:=Option.bind_eq_some_iff.mp H
     obtain ⟨U2,Xn,H⟩:=H
     replace H:(if U2=true then ((kL.f k1 bh).bind fun IU=>(some IU)) else (some false))=some r:=H
     have A32:=ah.mk Xn
     clear Xn
     by_cases Jh:U2=true
     ·subst Jh
      have H1:((kL.f k1 bh).bind fun IU=>(some IU))=some r:=by rw [if_pos rfl] at H;exact H
      clear H
      have H:=H1
      clear H1
      replace H:=Option.bind_eq_some_iff.mp H
      obtain ⟨IU,Xk,H⟩:=H
      replace H:(some IU)=some r:=H
      have A34:=ah.mk Xk
      clear Xk
      obtain rfl:=Option.some.inj H
      have Cq:wr.cell? ⟨gZ,0,none⟩=some (.string aI):=(af dz.out 0).trans rfl
      have Cr:wr.cell? ⟨gZ,1,none⟩=some (.string bh):=(af dz.out 1).trans rfl
      have Cs:wr.cell? ⟨gZ,2,none⟩=some (.bool false):=(af dz.out 2).trans rfl
      have Ct:=aa dz.out 0
      have Cu:=aa dz.out 1
      have Cv:=aa dz.out 2
      go_wp2_with (first|((with_reducible refine aT (f:=58) rfl ?_);refine cC (some 41) rfl rfl Tryz.func58 av rfl #[.agg #[.string aI,.string bh,.bool false]] rfl cY ?_;(with_reducible refine (eJ.calls k1 aI bh false true _ ?bg A32.out).mono ?_);(case bg=>exact aW.below HG.out ku);rintro e w36 ⟨rfl,hb⟩;refine ⟨_,rfl,?_⟩;have bI:=ah.mk (aR (g:=gZ) (o:= .cells #[.string aI,.string bh,.bool false] 30 (0,0)) tW hb);have bP:=ah.mk (az ku hb);clear dz;clear HB;have dz:=bI;have HB:=bP;clear bI bP;(try clear hb);(try clear hb2);(try clear hk);(try clear hi);have TG:w36.cell? ⟨gZ,0,none⟩=some (.string aI):=(af dz.out 0).trans rfl;have TH:w36.cell? ⟨gZ,1,none⟩=some (.string bh):=(af dz.out 1).trans rfl;have TI:w36.cell? ⟨gZ,2,none⟩=some (.bool false):=(af dz.out 2).trans rfl;have TJ:=aa dz.out 0;have TK:=aa dz.out 1;have TL:=aa dz.out 2)|(go_at_call 65;(with_reducible refine (kL.calls k1 bh IU _ ?bg A34.out).mono ?_);(case bg=>exact aW.below HG.out ku);rintro e VT ⟨rfl,hb⟩;have bI:=ah.mk (aR (g:=gZ) (o:= .cells #[.string aI,.string bh,.bool false] 30 (0,0)) tW hb);have bP:=ah.mk (az ku hb);clear dz;clear HB;have dz:=bI;have HB:=bP;clear bI bP;(try clear hb);(try clear hb2);(try clear hk);(try clear hi)))
      go_ret
      exact ⟨cU,ku⟩
     ·replace Jh:=Bool.eq_false_iff.mpr Jh
      subst Jh
      have H1:(some false)=some r:=by rw [if_neg (show ¬ (false=true) by decide)] at H;exact H
      clear H
      have H:=H1
      clear H1
      obtain rfl:=Option.some.inj H
      have FD:wr.cell? ⟨gZ,0,none⟩=some (.string aI):=(af dz.out 0).trans rfl
      have FE:wr.cell? ⟨gZ,1,none⟩=some (.string bh):=(af dz.out 1).trans rfl
      have Z2:wr.cell? ⟨gZ,2,none⟩=some (.bool false):=(af dz.out 2).trans rfl
      have FH:=aa dz.out 0
      have FI:=aa dz.out 1
      have Z3:=aa dz.out 2
      go_wp2_with (first|((with_reducible refine aT (f:=58) rfl ?_);refine cC (some 41) rfl rfl Tryz.func58 av rfl #[.agg #[.string aI,.string bh,.bool false]] rfl cY ?_;(with_reducible refine (eJ.calls k1 aI bh false false _ ?bg A32.out).mono ?_);(case bg=>exact aW.below HG.out ku);rintro e w40 ⟨rfl,hb⟩;refine ⟨_,rfl,?_⟩;have bI:=ah.mk (aR (g:=gZ) (o:= .cells #[.string aI,.string bh,.bool false] 30 (0,0)) tW hb);have bP:=ah.mk (az ku hb);clear dz;clear HB;have dz:=bI;have HB:=bP;clear bI bP;(try clear hb);(try clear hb2);(try clear hk);(try clear hi)))
      go_ret
      exact ⟨cU,ku⟩
end Go.Proofs.YtokpnfljjjjikaaGreatDoor.n9
