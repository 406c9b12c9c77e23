import Derived.Test.YtokpnfljjjjikaaGreatDoorQCbx13
namespace Go.Proofs.YtokpnfljjjjikaaGreatDoor.nK
open Go.RowKit Go.Proofs.aj.bQ Go.Proofs.aj.fR Go.Proofs.aj.cM
attribute [local go_sem] iY iZ ku kA ig ij jc jd
set_option linter.unusedVariables false
set_option linter.unusedSimpArgs false
def dL.l0:Nat→Int→Int→ByteArray→ByteArray→Bool→Option (Bool)
 | 0,_,_,_,_,_ =>none
 |k + 1,x6,x7,yN,vL,Ep=>if x7 < x6 then (if 0≤x7 then (if x7 < (yN.size:Int) then (if (bt yN x7) < 32 then (some false) else (if (bt yN x7) > 126 then (some false) else (dL.l0 k x6 (wrap64 (x7 + 1)) yN vL Ep))) else (none)) else (none)) else (if Ep=true then ((ey.f k yN vL Ep).bind fun SU=>(if SU=true then ((bW.f k vL).bind fun Gj=>(if Gj=true then ((cz.f vL).bind fun Bk=>(some (Bk.toList == vL.toList))) else (some false))) else (some false))) else ((ey.f k yN vL Ep).bind fun SV=>(if SV=true then ((j5.f k vL).bind fun Gk=>(some Gk)) else (some false))))
def dL.f (k:Nat) (aI:ByteArray) (aZ:ByteArray) (bp:Bool):Option (Bool):=dL.l0 k (aI.size:Int) 0 aI aZ bp
def dL.T8:Bool×List (List Nat×List Nat):=(true,[([],[]),([0],[0]),([1,1],[1]),([2],[2]),([3,2],[2,3]),([4,2,2],[2,4]),([2,5],[2,5]),([6,5],[6]),([7],[7]),([8,7],[7,8]),([9,7,7],[7,9]),([7],[7]),([11,7],[7,11]),([10,12,7],[7,10,12]),([7,13],[7,13]),([14,10,0,1,2,3,4,5,6,7,8,9,10,11,12,13,14],[14])])
def dL.B8:List Nat:=[0,1,3,7,15,31,63,127,255,511,1023,255,2303,8191,16383,32767]
theorem dL.abB:rR .any (opsOf Tryz.f63 8)=dL.T8:=by kernel_rfl
theorem dL.VA:uE dL.T8.2 dL.B8=true:=by kernel_rfl
set_option maxHeartbeats 8000000 in
set_option maxRecDepth 100000 in
theorem dL.calls (k:Nat) (aI:ByteArray) (aZ:ByteArray) (bp:Bool) (r:Bool) (w:World) (hG:aQ w) (h:dL.f k aI aZ bp=some r):
 Calls Tryz.prog 63 #[.agg #[.string aI,.string aZ,.bool bp]] w fun e w'=>e= .returned (.bool r)∧Below w.heap.size w w':=by
 have LR:=Tryz.underlying30
 have HB:=ah.mk (Below.refl w.heap.size w)
 have HG:=ah.mk hG
 clear hG
 have H:(dL.l0 k (aI.size:Int) 0 aI aZ bp)=some r:=h
 clear h
 have H':=ah.mk H
 clear H
 go_enter Tryz.func63,Tryz.ntmps63
 go_wp2_with (first|((with_reducible refine cQ (N:=1) rfl ?_);refine cE ?hg (N:=1) ?hd (cs:=#[.string aI,.string aZ,.bool bp]) (t:=30) ?hr ?_;(case hd=>rfl);(case hg=>rfl);(case hr=>first|(go_simp;done)|(go_simp;rfl));intro gG hg w2 cY hb;have bL:=ah.mk (aC cw hb);have bS:=ah.mk (cY);have cG:=ah.mk ((dQ:w.heap.size≤gG));have dA:=ah.mk ((dQ:w.heap.size≤gG));clear HB;have HB:=bL;have dg:=bS;have akC:=cG;have acy:=dA;clear bL bS cG dA;clear hb cY hg;have tS:w2.cell? ⟨gG,0,none⟩=some (.string aI):=(af dg.out 0).trans rfl;have tT:w2.cell? ⟨gG,1,none⟩=some (.string aZ):=(af dg.out 1).trans rfl;have JY:w2.cell? ⟨gG,2,none⟩=some (.bool bp):=(af dg.out 2).trans rfl;have tU:=aa dg.out 0;have tV:=aa dg.out 1;have JZ:=aa dg.out 2))
 go_loopg [7] k (fun kq v7 w'=>∃ (oa:Int),v7= .int .i64 oa∧ah (dL.l0 kq (aI.size:Int) oa aI aZ bp=some r)∧ah (kq≤k)∧ah (w'.heap[gG]? =some (.cells #[.string aI,.string aZ,.bool bp] 30 (0,0)))∧ah (Below w.heap.size w w'))
 case atStart=>exact ⟨(0),dG,H',⟨Nat.le_refl _⟩,⟨rM⟩,⟨jS⟩⟩
 case round=>
  clear H'
  try clear p2
  try clear tS
  try clear tT
  try clear JY
  try clear tU
  try clear tV
  try clear JZ
  obtain ⟨oa,rfl,HA,uz,dg,HB⟩:=hrel
  cases gk with
  |zero=>exact absurd HA.out (by simp [dL.l0])
  |succ k1=>
   have H:=HA.out
   clear HA
   simp only [dL.l0] at H
   by_cases c4:oa < (aI.size:Int)
   ·rw [if_pos c4] at H
    have oC:decide (oa < (aI.size:Int))=true:=decide_eq_true c4
    clear c4
    by_cases c5: 0≤oa
    ·rw [if_pos c5] at H
     have tR:decide (0≤oa)=true:=decide_eq_true c5
     clear c5
     by_cases c6:oa < (aI.size:Int)
     ·rw [if_pos c6] at H
      have pP:decide (oa < (aI.size:Int))=true:=decide_eq_true c6
      clear c6
      by_cases c8:(bt aI oa) < 32
      ·rw [if_pos c8] at H
       have JM:decide ((bt aI oa) < 32)=true:=decide_eq_true c8
       clear c8
       obtain rfl:=Option.some.inj H
       have pX:wr.cell? ⟨gG,0,none⟩=some (.string aI):=(af dg.out 0).trans rfl
       have pY:wr.cell? ⟨gG,1,none⟩=some (.string aZ):=(af dg.out 1).trans rfl
       have wS:wr.cell? ⟨gG,2,none⟩=some (.bool bp):=(af dg.out 2).trans rfl
       have pZ:=aa dg.out 0
       have p8:=aa dg.out 1
       have wT:=aa dg.out 2
       have p7: 0≤(oa:Int):=of_decide_eq_true cL
       have q7:oa < (aI.size:Int):=of_decide_eq_true cL
       have Dk:=gI aI oa
       replace p7:=eq_true p7
       replace q7:=eq_true q7
       go_wp2
       go_ret
       exact ⟨cO,jS⟩
      ·rw [if_neg c8] at H
       have JM:decide ((bt aI oa) < 32)=false:=decide_eq_false c8
       clear c8
       by_cases c11:(bt aI oa) > 126
       ·rw [if_pos c11] at H
        have zg:decide (126 < (bt aI oa))=true:=decide_eq_true c11
        clear c11
        obtain rfl:=Option.some.inj H
        have uF:wr.cell? ⟨gG,0,none⟩=some (.string aI):=(af dg.out 0).trans rfl
        have uG:wr.cell? ⟨gG,1,none⟩=some (.string aZ):=(af dg.out 1).trans rfl
        have xI:wr.cell? ⟨gG,2,none⟩=some (.bool bp):=(af dg.out 2).trans rfl
        have uH:=aa dg.out 0
        have uI:=aa dg.out 1
        have xJ:=aa dg.out 2
        have p7: 0≤(oa:Int):=of_decide_eq_true cL
        have q7:oa < (aI.size:Int):=of_decide_eq_true cL
        have Dk:=gI aI oa
        replace p7:=eq_true p7
        replace q7:=eq_true q7
        have p10: 0≤(oa:Int):=of_decide_eq_true cL
        have q10:oa < (aI.size:Int):=of_decide_eq_true cL
        have aiF:=gI aI oa
        replace p10:=eq_true p10
        replace q10:=eq_true q10
        go_wp2
        go_ret
        exact ⟨cO,jS⟩
       ·rw [if_neg c11] at H
        have zg:decide (126 < (bt aI oa))=false:=decide_eq_false c11
        clear c11
        have H':=ah.mk H
        clear H
        have qi:wr.cell? ⟨gG,0,none⟩=some (.string aI):=(af dg.out 0).trans rfl
        have qj:wr.cell? ⟨gG,1,none⟩=some (.string aZ):=(af dg.out 1).trans rfl
        have uJ:wr.cell? ⟨gG,2,none⟩=some (.bool bp):=(af dg.out 2).trans rfl
        have qm:=aa dg.out 0
        have qo:=aa dg.out 1
        have uK:=aa dg.out 2
        have p7: 0≤(oa:Int):=of_decide_eq_true cL
        have q7:oa < (aI.size:Int):=of_decide_eq_true cL
        have Dk:=gI aI oa
        replace p7:=eq_true p7
        replace q7:=eq_true q7
        have p10: 0≤(oa:Int):=of_decide_eq_true cL
        have q10:oa < (aI.size:Int):=of_decide_eq_true cL
        have aiF:=gI aI oa
        replace p10:=eq_true p10
        replace q10:=eq_true q10
        go_wp2
        go_roundg k1
        case measure=>have:=uz.out;omega
        case rel=>exact ⟨(wrap64 (oa + 1)),dG,H',⟨kX⟩,⟨rM⟩,⟨jS⟩⟩
     ·rw [if_neg c6] at H
      exact absurd H aV
    ·rw [if_neg c5] at H
     exact absurd H aV
   ·rw [if_neg c4] at H
    have oC:decide (oa < (aI.size:Int))=false:=decide_eq_false c4
    clear c4
    by_cases c14:bp=true
    ·subst c14
     have H1:((ey.f k1 aI aZ true).bind fun SU=>(if SU=true then ((bW.f k1 aZ).bind fun Gj=>(if Gj=true then ((cz.f aZ).bind fun Bk=>(some (Bk.toList == aZ.toList))) else (some false))) else (some false)))=some r:=by rw [if_pos rfl] at H;exact H
     clear H
     have H:=H1
     clear H1
     replace H:=Option.bind_eq_some_iff.mp H
     obtain ⟨SU,Mm,H⟩:=H
     replace H:(if SU=true then ((bW.f k1 aZ).bind fun Gj=>(if Gj=true then ((cz.f aZ).bind fun Bk=>(some (Bk.toList == aZ.toList))) else (some false))) else (some false))=some r:=H
     have XN:=ah.mk Mm
     clear Mm
     by_cases c16:SU=true
     ·subst c16
      have H1:((bW.f k1 aZ).bind fun Gj=>(if Gj=true then ((cz.f aZ).bind fun Bk=>(some (Bk.toList == aZ.toList))) else (some false)))=some r:=by rw [if_pos rfl] at H;exact H
      clear H
      have H:=H1
      clear H1
      replace H:=Option.bind_eq_some_iff.mp H
      obtain ⟨Gj,VB,H⟩:=H
      replace H:(if Gj=true then ((cz.f aZ).bind fun Bk=>(some (Bk.toList == aZ.toList))) else (some false))=some r:=H
      have A17:=ah.mk VB
      clear VB
      by_cases c18:Gj=true
      ·subst c18
       have H1:((cz.f aZ).bind fun Bk=>(some (Bk.toList == aZ.toList)))=some r:=by rw [if_pos rfl] at H;exact H
       clear H
       have H:=H1
       clear H1
       replace H:=Option.bind_eq_some_iff.mp H
       obtain ⟨Bk,adZ,H⟩:=H
       replace H:(some (Bk.toList == aZ.toList))=some r:=H
       have A19:=ah.mk adZ
       clear adZ
       obtain rfl:=Option.some.inj H
       have Ee:wr.cell? ⟨gG,0,none⟩=some (.string aI):=(af dg.out 0).trans rfl
       have Ef:wr.cell? ⟨gG,1,none⟩=some (.string aZ):=(af dg.out 1).trans rfl
       have YE:wr.cell? ⟨gG,2,none⟩=some (.bool true):=(af dg.out 2).trans rfl
       have Eg:=aa dg.out 0
       have Eh:=aa dg.out 1
       have YF:=aa dg.out 2
       try go_wp2
       have bL:=ah.mk (bN dg.out)
       have bS:=ah.mk (bn HB.out)
       clear dg
       clear HB
       have dg:=bL
       have HB:=bS
       clear bL bS
       refine BP (n:=16) (S:=fun w'=>w'.cell? ⟨gG,0,none⟩=some (.string aI)∧w'.cell? ⟨gG,1,none⟩=some (.string aZ)∧w'.cell? ⟨gG,2,none⟩=some (.bool true)) (ds:=[]) #[false,false,false,false,false,false,false,false,false,false,false,false,false,false,false,false] av (by rfl) (by rfl) ⟨(af dg.out 0).trans rfl,(af dg.out 1).trans rfl,(af dg.out 2).trans rfl⟩ (fun hHeld=>?_);refine ue dL.abB dL.VA (fun lQ Oa=>?_)
       generalize wr.drew=XO at dg HB hHeld ⊢
       refine mV (i:=0) (N:=some 25) (v:=?_) (a':=?_) #[true,false,false,false,false,false,false,false,false,false,false,false,false,false,false,false] rfl rfl (mW lQ.out Oa.out av) (fun _ _ _ h=>h) (Or.inl ⟨by rfl,?_⟩) hHeld ?_ ?_
       rotate_left
       ·rintro w' ⟨s0,s1,s2⟩
        go_simp
        with_reducible rfl
       rotate_left
       ·simp only [Act.put,List.setIfInBounds_toArray,List.set_cons_zero,List.set_cons_succ,cR,cW]
        rfl
       refine Ix (i:=1) (N:=some 26) #[true,true,false,false,false,false,false,false,false,false,false,false,false,false,false,false] rfl rfl (wH lQ.out av) bG (fun K hK=>?_)
       refine Cw Tryz.func58 av rfl #[.agg #[.string aI,.string aZ,.bool true]] (by rfl) rfl rfl cX ?_
       with_reducible refine (ey.calls k1 aI aZ true true _ ?aW XN.out).mono ?_
       (case aW=>exact aQ.below HG.out jS)
       rintro e Fb ⟨rfl,hb⟩
       refine ⟨_,rfl,?_⟩
       have bL:=ah.mk (aX (g:=gG) (o:= .cells #[.string aI,.string aZ,.bool true] 30 (0,0)) rM hb)
       have bS:=ah.mk (aC jS hb)
       clear dg
       clear HB
       have dg:=bL
       have HB:=bS
       clear bL bS
       (try clear hb)
       (try clear hb2)
       (try clear hk)
       (try clear hi)
       refine hK.out _ _ ⟨(af dg.out 0).trans rfl,(af dg.out 1).trans rfl,(af dg.out 2).trans rfl⟩ (fun hHeld=>?_)
       clear hK K
       refine Cv (a':=?_) ?_ ?_
       rotate_left
       ·show Act.put _ (some 26) _=_
        simp only [Act.put,List.setIfInBounds_toArray,List.set_cons_zero,List.set_cons_succ,cR,cW]
        rfl
       refine eH (i:=2) (N:=some 27) (v:=?_) (a':=?_) #[true,true,true,false,false,false,false,false,false,false,false,false,false,false,false,false] rfl rfl (fG lQ.out av) (fun _ _ _ h=>h) (Or.inl ⟨by rfl,?_⟩) ?_ ?_
       rotate_left
       ·intro w'
        go_simp
        with_reducible rfl
       rotate_left
       ·simp only [Act.put,List.setIfInBounds_toArray,List.set_cons_zero,List.set_cons_succ,cR,cW]
        rfl
       refine eH (i:=3) (N:=some 28) (v:=?_) (a':=?_) #[true,true,true,true,false,false,false,false,false,false,false,false,false,false,false,false] rfl rfl (fG lQ.out av) (fun _ _ _ h=>h) (Or.inl ⟨by rfl,?_⟩) ?_ ?_
       rotate_left
       ·intro w'
        go_simp
        with_reducible rfl
       rotate_left
       ·simp only [Act.put,List.setIfInBounds_toArray,List.set_cons_zero,List.set_cons_succ,cR,cW]
        rfl
       refine mV (i:=4) (N:=some 29) (v:=?_) (a':=?_) #[true,true,true,true,true,false,false,false,false,false,false,false,false,false,false,false] rfl rfl (mW lQ.out Oa.out av) (fun _ _ _ h=>h) (Or.inl ⟨by rfl,?_⟩) hHeld ?_ ?_
       rotate_left
       ·rintro w' ⟨s0,s1,s2⟩
        go_simp
        with_reducible rfl
       rotate_left
       ·simp only [Act.put,List.setIfInBounds_toArray,List.set_cons_zero,List.set_cons_succ,cR,cW]
        rfl
       refine Ix (i:=5) (N:=some 30) #[true,true,true,true,true,true,false,false,false,false,false,false,false,false,false,false] rfl rfl (wH lQ.out av) bG (fun K hK=>?_)
       refine Cw Tryz.func27 av rfl #[.string aZ] (by rfl) rfl rfl cX ?_
       with_reducible refine (bW.calls k1 aZ true _ ?aW A17.out).mono ?_
       (case aW=>exact aQ.below HG.out jS)
       rintro e Li ⟨rfl,hb⟩
       refine ⟨_,rfl,?_⟩
       have bL:=ah.mk (aX (g:=gG) (o:= .cells #[.string aI,.string aZ,.bool true] 30 (0,0)) rM hb)
       have bS:=ah.mk (aC jS hb)
       clear dg
       clear HB
       have dg:=bL
       have HB:=bS
       clear bL bS
       (try clear hb)
       (try clear hb2)
       (try clear hk)
       (try clear hi)
       refine hK.out _ _ ⟨(af dg.out 0).trans rfl,(af dg.out 1).trans rfl,(af dg.out 2).trans rfl⟩ (fun hHeld=>?_)
       clear hK K
       refine Cv (a':=?_) ?_ ?_
       rotate_left
       ·show Act.put _ (some 30) _=_
        simp only [Act.put,List.setIfInBounds_toArray,List.set_cons_zero,List.set_cons_succ,cR,cW]
        rfl
       refine eH (i:=6) (N:=some 31) (v:=?_) (a':=?_) #[true,true,true,true,true,true,true,false,false,false,false,false,false,false,false,false] rfl rfl (fG lQ.out av) (fun _ _ _ h=>h) (Or.inl ⟨by rfl,?_⟩) ?_ ?_
       rotate_left
       ·intro w'
        go_simp
        with_reducible rfl
       rotate_left
       ·simp only [Act.put,List.setIfInBounds_toArray,List.set_cons_zero,List.set_cons_succ,cR,cW]
        rfl
       refine eH (i:=7) (N:=some 32) (v:=?_) (a':=?_) #[true,true,true,true,true,true,true,true,false,false,false,false,false,false,false,false] rfl rfl (fG lQ.out av) (fun _ _ _ h=>h) (Or.inl ⟨by rfl,?_⟩) ?_ ?_
       rotate_left
       ·intro w'
        go_simp
        with_reducible rfl
       rotate_left
       ·simp only [Act.put,List.setIfInBounds_toArray,List.set_cons_zero,List.set_cons_succ,cR,cW]
        rfl
       refine eH (i:=8) (N:=some 33) (v:=?_) (a':=?_) #[true,true,true,true,true,true,true,true,true,false,false,false,false,false,false,false] rfl rfl (fG lQ.out av) (fun _ _ _ h=>h) (Or.inl ⟨by rfl,?_⟩) ?_ ?_
       rotate_left
       ·intro w'
        go_simp
        with_reducible rfl
       rotate_left
       ·simp only [Act.put,List.setIfInBounds_toArray,List.set_cons_zero,List.set_cons_succ,cR,cW]
        rfl
       refine eH (i:=11) (N:=some 36) (v:=?_) (a':=?_) #[true,true,true,true,true,true,true,true,true,false,false,true,false,false,false,false] rfl rfl (fG lQ.out av) (fun _ _ _ h=>h) (Or.inl ⟨by rfl,?_⟩) ?_ ?_
       rotate_left
       ·intro w'
        go_simp
        with_reducible rfl
       rotate_left
       ·simp only [Act.put,List.setIfInBounds_toArray,List.set_cons_zero,List.set_cons_succ,cR,cW]
        rfl
       refine mV (i:=9) (N:=some 34) (v:=?_) (a':=?_) #[true,true,true,true,true,true,true,true,true,true,false,true,false,false,false,false] rfl rfl (mW lQ.out Oa.out av) (fun _ _ _ h=>h) (Or.inl ⟨by rfl,?_⟩) hHeld ?_ ?_
       rotate_left
       ·rintro w' ⟨s0,s1,s2⟩
        go_simp
        with_reducible rfl
       rotate_left
       ·simp only [Act.put,List.setIfInBounds_toArray,List.set_cons_zero,List.set_cons_succ,cR,cW]
        rfl
       refine mV (i:=12) (N:=some 37) (v:=?_) (a':=?_) #[true,true,true,true,true,true,true,true,true,true,false,true,true,false,false,false] rfl rfl (mW lQ.out Oa.out av) (fun _ _ _ h=>h) (Or.inl ⟨by rfl,?_⟩) hHeld ?_ ?_
       rotate_left
       ·rintro w' ⟨s0,s1,s2⟩
        go_simp
        with_reducible rfl
       rotate_left
       ·simp only [Act.put,List.setIfInBounds_toArray,List.set_cons_zero,List.set_cons_succ,cR,cW]
        rfl
       refine Ix (i:=10) (N:=some 35) #[true,true,true,true,true,true,true,true,true,true,true,true,true,false,false,false] rfl rfl (wH lQ.out av) bG (fun K hK=>?_)
       refine Cw Tryz.func81 av rfl #[.string aZ] (by rfl) rfl rfl cX ?_
       with_reducible refine (cz.calls aZ Bk _ A19.out).mono ?_
       rintro e KN ⟨rfl,hb⟩
       refine ⟨_,rfl,?_⟩
       have bL:=ah.mk (aX (g:=gG) (o:= .cells #[.string aI,.string aZ,.bool true] 30 (0,0)) rM hb)
       have bS:=ah.mk (aC jS hb)
       clear dg
       clear HB
       have dg:=bL
       have HB:=bS
       clear bL bS
       (try clear hb)
       (try clear hb2)
       (try clear hk)
       (try clear hi)
       refine hK.out _ _ ⟨(af dg.out 0).trans rfl,(af dg.out 1).trans rfl,(af dg.out 2).trans rfl⟩ (fun hHeld=>?_)
       clear hK K
       refine Cv (a':=?_) ?_ ?_
       rotate_left
       ·show Act.put _ (some 35) _=_
        simp only [Act.put,List.setIfInBounds_toArray,List.set_cons_zero,List.set_cons_succ,cR,cW]
        rfl
       refine eH (i:=13) (N:=some 38) (v:=?_) (a':=?_) #[true,true,true,true,true,true,true,true,true,true,true,true,true,true,false,false] rfl rfl (fG lQ.out av) (fun _ _ _ h=>h) (Or.inl ⟨by rfl,?_⟩) ?_ ?_
       rotate_left
       ·intro w'
        go_simp
        with_reducible rfl
       rotate_left
       ·simp only [Act.put,List.setIfInBounds_toArray,List.set_cons_zero,List.set_cons_succ,cR,cW]
        rfl
       refine eH (i:=14) (N:=some 39) (v:=?_) (a':=?_) #[true,true,true,true,true,true,true,true,true,true,true,true,true,true,true,false] rfl rfl (fG lQ.out av) (fun _ _ _ h=>h) (Or.inl ⟨by rfl,?_⟩) ?_ ?_
       rotate_left
       ·intro w'
        go_simp
        with_reducible rfl
       rotate_left
       ·simp only [Act.put,List.setIfInBounds_toArray,List.set_cons_zero,List.set_cons_succ,cR,cW]
        rfl
       refine eH (i:=15) (N:=some 2) (v:=?_) (a':=?_) #[true,true,true,true,true,true,true,true,true,true,true,true,true,true,true,true] rfl rfl (fG lQ.out av) (fun _ _ _ h=>h) (Or.inl ⟨by rfl,?_⟩) ?_ ?_
       rotate_left
       ·intro w'
        go_simp
        with_reducible rfl
       rotate_left
       ·simp only [Act.put,List.setIfInBounds_toArray,List.set_cons_zero,List.set_cons_succ,cR,cW]
        rfl
       refine GD (zX lQ.out av) ?_
       try go_wp2
       go_ret
       exact ⟨cO,jS⟩
      ·replace c18:=Bool.eq_false_iff.mpr c18
       subst c18
       have H1:(some false)=some r:=by rw [if_neg (show ¬ (false=true) by decide)] at H;exact H
       clear H
       have H:=H1
       clear H1
       obtain rfl:=Option.some.inj H
       have td:wr.cell? ⟨gG,0,none⟩=some (.string aI):=(af dg.out 0).trans rfl
       have tj:wr.cell? ⟨gG,1,none⟩=some (.string aZ):=(af dg.out 1).trans rfl
       have tq:wr.cell? ⟨gG,2,none⟩=some (.bool true):=(af dg.out 2).trans rfl
       have tu:=aa dg.out 0
       have tv:=aa dg.out 1
       have tA:=aa dg.out 2
       try go_wp2
       have bL:=ah.mk (bN dg.out)
       have bS:=ah.mk (bn HB.out)
       clear dg
       clear HB
       have dg:=bL
       have HB:=bS
       clear bL bS
       refine BP (n:=16) (S:=fun w'=>w'.cell? ⟨gG,0,none⟩=some (.string aI)∧w'.cell? ⟨gG,1,none⟩=some (.string aZ)∧w'.cell? ⟨gG,2,none⟩=some (.bool true)) (ds:=[]) #[false,false,false,false,false,false,false,false,false,false,false,false,false,false,false,false] av (by rfl) (by rfl) ⟨(af dg.out 0).trans rfl,(af dg.out 1).trans rfl,(af dg.out 2).trans rfl⟩ (fun hHeld=>?_);refine ue dL.abB dL.VA (fun lQ Oa=>?_)
       generalize wr.drew=zO at dg HB hHeld ⊢
       refine mV (i:=0) (N:=some 25) (v:=?_) (a':=?_) #[true,false,false,false,false,false,false,false,false,false,false,false,false,false,false,false] rfl rfl (mW lQ.out Oa.out av) (fun _ _ _ h=>h) (Or.inl ⟨by rfl,?_⟩) hHeld ?_ ?_
       rotate_left
       ·rintro w' ⟨s0,s1,s2⟩
        go_simp
        with_reducible rfl
       rotate_left
       ·simp only [Act.put,List.setIfInBounds_toArray,List.set_cons_zero,List.set_cons_succ,cR,cW]
        rfl
       refine Ix (i:=1) (N:=some 26) #[true,true,false,false,false,false,false,false,false,false,false,false,false,false,false,false] rfl rfl (wH lQ.out av) bG (fun K hK=>?_)
       refine Cw Tryz.func58 av rfl #[.agg #[.string aI,.string aZ,.bool true]] (by rfl) rfl rfl cX ?_
       with_reducible refine (ey.calls k1 aI aZ true true _ ?aW XN.out).mono ?_
       (case aW=>exact aQ.below HG.out jS)
       rintro e WH ⟨rfl,hb⟩
       refine ⟨_,rfl,?_⟩
       have bL:=ah.mk (aX (g:=gG) (o:= .cells #[.string aI,.string aZ,.bool true] 30 (0,0)) rM hb)
       have bS:=ah.mk (aC jS hb)
       clear dg
       clear HB
       have dg:=bL
       have HB:=bS
       clear bL bS
       (try clear hb)
       (try clear hb2)
       (try clear hk)
       (try clear hi)
       refine hK.out _ _ ⟨(af dg.out 0).trans rfl,(af dg.out 1).trans rfl,(af dg.out 2).trans rfl⟩ (fun hHeld=>?_)
       clear hK K
       refine Cv (a':=?_) ?_ ?_
       rotate_left
       ·show Act.put _ (some 26) _=_
        simp only [Act.put,List.setIfInBounds_toArray,List.set_cons_zero,List.set_cons_succ,cR,cW]
        rfl
       refine eH (i:=2) (N:=some 27) (v:=?_) (a':=?_) #[true,true,true,false,false,false,false,false,false,false,false,false,false,false,false,false] rfl rfl (fG lQ.out av) (fun _ _ _ h=>h) (Or.inl ⟨by rfl,?_⟩) ?_ ?_
       rotate_left
       ·intro w'
        go_simp
        with_reducible rfl
       rotate_left
       ·simp only [Act.put,List.setIfInBounds_toArray,List.set_cons_zero,List.set_cons_succ,cR,cW]
        rfl
       refine eH (i:=3) (N:=some 28) (v:=?_) (a':=?_) #[true,true,true,true,false,false,false,false,false,false,false,false,false,false,false,false] rfl rfl (fG lQ.out av) (fun _ _ _ h=>h) (Or.inl ⟨by rfl,?_⟩) ?_ ?_
       rotate_left
       ·intro w'
        go_simp
        with_reducible rfl
       rotate_left
       ·simp only [Act.put,List.setIfInBounds_toArray,List.set_cons_zero,List.set_cons_succ,cR,cW]
        rfl
       refine mV (i:=4) (N:=some 29) (v:=?_) (a':=?_) #[true,true,true,true,true,false,false,false,false,false,false,false,false,false,false,false] rfl rfl (mW lQ.out Oa.out av) (fun _ _ _ h=>h) (Or.inl ⟨by rfl,?_⟩) hHeld ?_ ?_
       rotate_left
       ·rintro w' ⟨s0,s1,s2⟩
        go_simp
        with_reducible rfl
       rotate_left
       ·simp only [Act.put,List.setIfInBounds_toArray,List.set_cons_zero,List.set_cons_succ,cR,cW]
        rfl
       refine Ix (i:=5) (N:=some 30) #[true,true,true,true,true,true,false,false,false,false,false,false,false,false,false,false] rfl rfl (wH lQ.out av) bG (fun K hK=>?_)
       refine Cw Tryz.func27 av rfl #[.string aZ] (by rfl) rfl rfl cX ?_
       with_reducible refine (bW.calls k1 aZ false _ ?aW A17.out).mono ?_
       (case aW=>exact aQ.below HG.out jS)
       rintro e w28 ⟨rfl,hb⟩
       refine ⟨_,rfl,?_⟩
       have bL:=ah.mk (aX (g:=gG) (o:= .cells #[.string aI,.string aZ,.bool true] 30 (0,0)) rM hb)
       have bS:=ah.mk (aC jS hb)
       clear dg
       clear HB
       have dg:=bL
       have HB:=bS
       clear bL bS
       (try clear hb)
       (try clear hb2)
       (try clear hk)
       (try clear hi)
       refine hK.out _ _ ⟨(af dg.out 0).trans rfl,(af dg.out 1).trans rfl,(af dg.out 2).trans rfl⟩ (fun hHeld=>?_)
       clear hK K
       refine Cv (a':=?_) ?_ ?_
       rotate_left
       ·show Act.put _ (some 30) _=_
        simp only [Act.put,List.setIfInBounds_toArray,List.set_cons_zero,List.set_cons_succ,cR,cW]
        rfl
       refine eH (i:=6) (N:=some 31) (v:=?_) (a':=?_) #[true,true,true,true,true,true,true,false,false,false,false,false,false,false,false,false] rfl rfl (fG lQ.out av) (fun _ _ _ h=>h) (Or.inl ⟨by rfl,?_⟩) ?_ ?_
       rotate_left
       ·intro w'
        go_simp
        with_reducible rfl
       rotate_left
       ·simp only [Act.put,List.setIfInBounds_toArray,List.set_cons_zero,List.set_cons_succ,cR,cW]
        rfl
       refine eH (i:=7) (N:=some 32) (v:=?_) (a':=?_) #[true,true,true,true,true,true,true,true,false,false,false,false,false,false,false,false] rfl rfl (fG lQ.out av) (fun _ _ _ h=>h) (Or.inl ⟨by rfl,?_⟩) ?_ ?_
       rotate_left
       ·intro w'
        go_simp
        with_reducible rfl
       rotate_left
       ·simp only [Act.put,List.setIfInBounds_toArray,List.set_cons_zero,List.set_cons_succ,cR,cW]
        rfl
       refine eH (i:=8) (N:=some 33) (v:=undef) (a':=?_) #[true,true,true,true,true,true,true,true,true,false,false,false,false,false,false,false] rfl rfl (fG lQ.out av) (fun _ _ _ h=>h) (Or.inr ⟨by rfl,rfl⟩) ?_ ?_
       rotate_left
       ·simp only [Act.put,List.setIfInBounds_toArray,List.set_cons_zero,List.set_cons_succ,cR,cW]
        rfl
       refine eH (i:=9) (N:=some 34) (v:=undef) (a':=?_) #[true,true,true,true,true,true,true,true,true,true,false,false,false,false,false,false] rfl rfl (fG lQ.out av) (fun _ _ _ h=>h) (Or.inr ⟨by rfl,rfl⟩) ?_ ?_
       rotate_left
       ·simp only [Act.put,List.setIfInBounds_toArray,List.set_cons_zero,List.set_cons_succ,cR,cW]
        rfl
       refine eH (i:=10) (N:=some 35) (v:=undef) (a':=?_) #[true,true,true,true,true,true,true,true,true,true,true,false,false,false,false,false] rfl rfl (fG lQ.out av) (fun _ _ _ h=>h) (Or.inr ⟨by rfl,rfl⟩) ?_ ?_
       rotate_left
       ·simp only [Act.put,List.setIfInBounds_toArray,List.set_cons_zero,List.set_cons_succ,cR,cW]
        rfl
       refine eH (i:=11) (N:=some 36) (v:=undef) (a':=?_) #[true,true,true,true,true,true,true,true,true,true,true,true,false,false,false,false] rfl rfl (fG lQ.out av) (fun _ _ _ h=>h) (Or.inr ⟨by rfl,rfl⟩) ?_ ?_
       rotate_left
       ·simp only [Act.put,List.setIfInBounds_toArray,List.set_cons_zero,List.set_cons_succ,cR,cW]
        rfl
       refine eH (i:=12) (N:=some 37) (v:=undef) (a':=?_) #[true,true,true,true,true,true,true,true,true,true,true,true,true,false,false,false] rfl rfl (fG lQ.out av) (fun _ _ _ h=>h) (Or.inr ⟨by rfl,rfl⟩) ?_ ?_
       rotate_left
       ·simp only [Act.put,List.setIfInBounds_toArray,List.set_cons_zero,List.set_cons_succ,cR,cW]
        rfl
       refine eH (i:=13) (N:=some 38) (v:=undef) (a':=?_) #[true,true,true,true,true,true,true,true,true,true,true,true,true,true,false,false] rfl rfl (fG lQ.out av) (fun _ _ _ h=>h) (Or.inr ⟨by rfl,rfl⟩) ?_ ?_
       rotate_left
       ·simp only [Act.put,List.setIfInBounds_toArray,List.set_cons_zero,List.set_cons_succ,cR,cW]
        rfl
       refine eH (i:=14) (N:=some 39) (v:=?_) (a':=?_) #[true,true,true,true,true,true,true,true,true,true,true,true,true,true,true,false] rfl rfl (fG lQ.out av) (fun _ _ _ h=>h) (Or.inl ⟨by rfl,?_⟩) ?_ ?_
       rotate_left
       ·intro w'
        go_simp
        with_reducible rfl
       rotate_left
       ·simp only [Act.put,List.setIfInBounds_toArray,List.set_cons_zero,List.set_cons_succ,cR,cW]
        rfl
       refine eH (i:=15) (N:=some 2) (v:=?_) (a':=?_) #[true,true,true,true,true,true,true,true,true,true,true,true,true,true,true,true] rfl rfl (fG lQ.out av) (fun _ _ _ h=>h) (Or.inl ⟨by rfl,?_⟩) ?_ ?_
       rotate_left
       ·intro w'
        go_simp
        with_reducible rfl
       rotate_left
       ·simp only [Act.put,List.setIfInBounds_toArray,List.set_cons_zero,List.set_cons_succ,cR,cW]
        rfl
       refine GD (zX lQ.out av) ?_
       try go_wp2
       go_ret
       exact ⟨cO,jS⟩
     ·replace c16:=Bool.eq_false_iff.mpr c16
      subst c16
      have H1:(some false)=some r:=by rw [if_neg (show ¬ (false=true) by decide)] at H;exact H
      clear H
      have H:=H1
      clear H1
      obtain rfl:=Option.some.inj H
      have xK:wr.cell? ⟨gG,0,none⟩=some (.string aI):=(af dg.out 0).trans rfl
      have xL:wr.cell? ⟨gG,1,none⟩=some (.string aZ):=(af dg.out 1).trans rfl
      have Ah:wr.cell? ⟨gG,2,none⟩=some (.bool true):=(af dg.out 2).trans rfl
      have xM:=aa dg.out 0
      have xN:=aa dg.out 1
      have Ai:=aa dg.out 2
      try go_wp2
      have bL:=ah.mk (bN dg.out)
      have bS:=ah.mk (bn HB.out)
      clear dg
      clear HB
      have dg:=bL
      have HB:=bS
      clear bL bS
      refine BP (n:=16) (S:=fun w'=>w'.cell? ⟨gG,0,none⟩=some (.string aI)∧w'.cell? ⟨gG,1,none⟩=some (.string aZ)∧w'.cell? ⟨gG,2,none⟩=some (.bool true)) (ds:=[]) #[false,false,false,false,false,false,false,false,false,false,false,false,false,false,false,false] av (by rfl) (by rfl) ⟨(af dg.out 0).trans rfl,(af dg.out 1).trans rfl,(af dg.out 2).trans rfl⟩ (fun hHeld=>?_);refine ue dL.abB dL.VA (fun lQ Oa=>?_)
      generalize wr.drew=w30 at dg HB hHeld ⊢
      refine mV (i:=0) (N:=some 25) (v:=?_) (a':=?_) #[true,false,false,false,false,false,false,false,false,false,false,false,false,false,false,false] rfl rfl (mW lQ.out Oa.out av) (fun _ _ _ h=>h) (Or.inl ⟨by rfl,?_⟩) hHeld ?_ ?_
      rotate_left
      ·rintro w' ⟨s0,s1,s2⟩
       go_simp
       with_reducible rfl
      rotate_left
      ·simp only [Act.put,List.setIfInBounds_toArray,List.set_cons_zero,List.set_cons_succ,cR,cW]
       rfl
      refine Ix (i:=1) (N:=some 26) #[true,true,false,false,false,false,false,false,false,false,false,false,false,false,false,false] rfl rfl (wH lQ.out av) bG (fun K hK=>?_)
      refine Cw Tryz.func58 av rfl #[.agg #[.string aI,.string aZ,.bool true]] (by rfl) rfl rfl cX ?_
      with_reducible refine (ey.calls k1 aI aZ true false _ ?aW XN.out).mono ?_
      (case aW=>exact aQ.below HG.out jS)
      rintro e w31 ⟨rfl,hb⟩
      refine ⟨_,rfl,?_⟩
      have bL:=ah.mk (aX (g:=gG) (o:= .cells #[.string aI,.string aZ,.bool true] 30 (0,0)) rM hb)
      have bS:=ah.mk (aC jS hb)
      clear dg
      clear HB
      have dg:=bL
      have HB:=bS
      clear bL bS
      (try clear hb)
      (try clear hb2)
      (try clear hk)
      (try clear hi)
      refine hK.out _ _ ⟨(af dg.out 0).trans rfl,(af dg.out 1).trans rfl,(af dg.out 2).trans rfl⟩ (fun hHeld=>?_)
      clear hK K
      refine Cv (a':=?_) ?_ ?_
      rotate_left
      ·show Act.put _ (some 26) _=_
       simp only [Act.put,List.setIfInBounds_toArray,List.set_cons_zero,List.set_cons_succ,cR,cW]
       rfl
      refine eH (i:=2) (N:=some 27) (v:=?_) (a':=?_) #[true,true,true,false,false,false,false,false,false,false,false,false,false,false,false,false] rfl rfl (fG lQ.out av) (fun _ _ _ h=>h) (Or.inl ⟨by rfl,?_⟩) ?_ ?_
      rotate_left
      ·intro w'
       go_simp
       with_reducible rfl
      rotate_left
      ·simp only [Act.put,List.setIfInBounds_toArray,List.set_cons_zero,List.set_cons_succ,cR,cW]
       rfl
      refine eH (i:=3) (N:=some 28) (v:=undef) (a':=?_) #[true,true,true,true,false,false,false,false,false,false,false,false,false,false,false,false] rfl rfl (fG lQ.out av) (fun _ _ _ h=>h) (Or.inr ⟨by rfl,rfl⟩) ?_ ?_
      rotate_left
      ·simp only [Act.put,List.setIfInBounds_toArray,List.set_cons_zero,List.set_cons_succ,cR,cW]
       rfl
      refine eH (i:=4) (N:=some 29) (v:=undef) (a':=?_) #[true,true,true,true,true,false,false,false,false,false,false,false,false,false,false,false] rfl rfl (fG lQ.out av) (fun _ _ _ h=>h) (Or.inr ⟨by rfl,rfl⟩) ?_ ?_
      rotate_left
      ·simp only [Act.put,List.setIfInBounds_toArray,List.set_cons_zero,List.set_cons_succ,cR,cW]
       rfl
      refine eH (i:=5) (N:=some 30) (v:=undef) (a':=?_) #[true,true,true,true,true,true,false,false,false,false,false,false,false,false,false,false] rfl rfl (fG lQ.out av) (fun _ _ _ h=>h) (Or.inr ⟨by rfl,rfl⟩) ?_ ?_
      rotate_left
      ·simp only [Act.put,List.setIfInBounds_toArray,List.set_cons_zero,List.set_cons_succ,cR,cW]
       rfl
      refine eH (i:=6) (N:=some 31) (v:=?_) (a':=?_) #[true,true,true,true,true,true,true,false,false,false,false,false,false,false,false,false] rfl rfl (fG lQ.out av) (fun _ _ _ h=>h) (Or.inl ⟨by rfl,?_⟩) ?_ ?_
      rotate_left
      ·intro w'
       go_simp
       with_reducible rfl
      rotate_left
      ·simp only [Act.put,List.setIfInBounds_toArray,List.set_cons_zero,List.set_cons_succ,cR,cW]
       rfl
      refine eH (i:=7) (N:=some 32) (v:=?_) (a':=?_) #[true,true,true,true,true,true,true,true,false,false,false,false,false,false,false,false] rfl rfl (fG lQ.out av) (fun _ _ _ h=>h) (Or.inl ⟨by rfl,?_⟩) ?_ ?_
      rotate_left
      ·intro w'
       go_simp
       with_reducible rfl
      rotate_left
      ·simp only [Act.put,List.setIfInBounds_toArray,List.set_cons_zero,List.set_cons_succ,cR,cW]
       rfl
      refine eH (i:=8) (N:=some 33) (v:=undef) (a':=?_) #[true,true,true,true,true,true,true,true,true,false,false,false,false,false,false,false] rfl rfl (fG lQ.out av) (fun _ _ _ h=>h) (Or.inr ⟨by rfl,rfl⟩) ?_ ?_
      rotate_left
      ·simp only [Act.put,List.setIfInBounds_toArray,List.set_cons_zero,List.set_cons_succ,cR,cW]
       rfl
      refine eH (i:=9) (N:=some 34) (v:=undef) (a':=?_) #[true,true,true,true,true,true,true,true,true,true,false,false,false,false,false,false] rfl rfl (fG lQ.out av) (fun _ _ _ h=>h) (Or.inr ⟨by rfl,rfl⟩) ?_ ?_
      rotate_left
      ·simp only [Act.put,List.setIfInBounds_toArray,List.set_cons_zero,List.set_cons_succ,cR,cW]
       rfl
      refine eH (i:=10) (N:=some 35) (v:=undef) (a':=?_) #[true,true,true,true,true,true,true,true,true,true,true,false,false,false,false,false] rfl rfl (fG lQ.out av) (fun _ _ _ h=>h) (Or.inr ⟨by rfl,rfl⟩) ?_ ?_
      rotate_left
      ·simp only [Act.put,List.setIfInBounds_toArray,List.set_cons_zero,List.set_cons_succ,cR,cW]
       rfl
      refine eH (i:=11) (N:=some 36) (v:=undef) (a':=?_) #[true,true,true,true,true,true,true,true,true,true,true,true,false,false,false,false] rfl rfl (fG lQ.out av) (fun _ _ _ h=>h) (Or.inr ⟨by rfl,rfl⟩) ?_ ?_
      rotate_left
      ·simp only [Act.put,List.setIfInBounds_toArray,List.set_cons_zero,List.set_cons_succ,cR,cW]
       rfl
      refine eH (i:=12) (N:=some 37) (v:=undef) (a':=?_) #[true,true,true,true,true,true,true,true,true,true,true,true,true,false,false,false] rfl rfl (fG lQ.out av) (fun _ _ _ h=>h) (Or.inr ⟨by rfl,rfl⟩) ?_ ?_
      rotate_left
      ·simp only [Act.put,List.setIfInBounds_toArray,List.set_cons_zero,List.set_cons_succ,cR,cW]
       rfl
      refine eH (i:=13) (N:=some 38) (v:=undef) (a':=?_) #[true,true,true,true,true,true,true,true,true,true,true,true,true,true,false,false] rfl rfl (fG lQ.out av) (fun _ _ _ h=>h) (Or.inr ⟨by rfl,rfl⟩) ?_ ?_
      rotate_left
      ·simp only [Act.put,List.setIfInBounds_toArray,List.set_cons_zero,List.set_cons_succ,cR,cW]
       rfl
      refine eH (i:=14) (N:=some 39) (v:=?_) (a':=?_) #[true,true,true,true,true,true,true,true,true,true,true,true,true,true,true,false] rfl rfl (fG lQ.out av) (fun _ _ _ h=>h) (Or.inl ⟨by rfl,?_⟩) ?_ ?_
      rotate_left
      ·intro w'
       go_simp
       with_reducible rfl
      rotate_left
      ·simp only [Act.put,List.setIfInBounds_toArray,List.set_cons_zero,List.set_cons_succ,cR,cW]
       rfl
      refine eH (i:=15) (N:=some 2) (v:=?_) (a':=?_) #[true,true,true,true,true,true,true,true,true,true,true,true,true,true,true,true] rfl rfl (fG lQ.out av) (fun _ _ _ h=>h) (Or.inl ⟨by rfl,?_⟩) ?_ ?_
      rotate_left
      ·intro w'
       go_simp
       with_reducible rfl
      rotate_left
      ·simp only [Act.put,List.setIfInBounds_toArray,List.set_cons_zero,List.set_cons_succ,cR,cW]
       rfl
      refine GD (zX lQ.out av) ?_
      try go_wp2
      go_ret
      exact ⟨cO,jS⟩
    ·replace c14:=Bool.eq_false_iff.mpr c14
     subst c14
     have H1:((ey.f k1 aI aZ false).bind fun SV=>(if SV=true then ((j5.f k1 aZ).bind fun Gk=>(some Gk)) else (some false)))=some r:=by rw [if_neg (show ¬ (false=true) by decide)] at H;exact H
     clear H
     have H:=H1
     clear H1
     replace H:=Option.bind_eq_some_iff.mp H
     obtain ⟨SV,U7,H⟩:=H
     replace H:(if SV=true then ((j5.f k1 aZ).bind fun Gk=>(some Gk)) else (some false))=some r:=H
     have A32:=ah.mk U7
     clear U7
     by_cases Dj:SV=true
     ·subst Dj
      have H1:((j5.f k1 aZ).bind fun Gk=>(some Gk))=some r:=by rw [if_pos rfl] at H;exact H
      clear H
      have H:=H1
      clear H1
      replace H:=Option.bind_eq_some_iff.mp H
      obtain ⟨Gk,Mi,H⟩:=H
      replace H:(some Gk)=some r:=H
      have ZR:=ah.mk Mi
      clear Mi
      obtain rfl:=Option.some.inj H
      have AO:wr.cell? ⟨gG,0,none⟩=some (.string aI):=(af dg.out 0).trans rfl
      have AP:wr.cell? ⟨gG,1,none⟩=some (.string aZ):=(af dg.out 1).trans rfl
      have AQ:wr.cell? ⟨gG,2,none⟩=some (.bool false):=(af dg.out 2).trans rfl
      have AR:=aa dg.out 0
      have AU:=aa dg.out 1
      have AV:=aa dg.out 2
      go_wp2_with (first|((with_reducible refine aU (f:=58) rfl ?_);refine cB (some 41) rfl rfl Tryz.func58 av rfl #[.agg #[.string aI,.string aZ,.bool false]] rfl cX ?_;(with_reducible refine (ey.calls k1 aI aZ false true _ ?aW A32.out).mono ?_);(case aW=>exact aQ.below HG.out jS);rintro e w36 ⟨rfl,hb⟩;refine ⟨_,rfl,?_⟩;have bL:=ah.mk (aX (g:=gG) (o:= .cells #[.string aI,.string aZ,.bool false] 30 (0,0)) rM hb);have bS:=ah.mk (aC jS hb);clear dg;clear HB;have dg:=bL;have HB:=bS;clear bL bS;(try clear hb);(try clear hb2);(try clear hk);(try clear hi);have Ke:w36.cell? ⟨gG,0,none⟩=some (.string aI):=(af dg.out 0).trans rfl;have Kf:w36.cell? ⟨gG,1,none⟩=some (.string aZ):=(af dg.out 1).trans rfl;have Kg:w36.cell? ⟨gG,2,none⟩=some (.bool false):=(af dg.out 2).trans rfl;have Kh:=aa dg.out 0;have Ki:=aa dg.out 1;have Kj:=aa dg.out 2)|(go_at_call 65;(with_reducible refine (j5.calls k1 aZ Gk _ ?aW ZR.out).mono ?_);(case aW=>exact aQ.below HG.out jS);rintro e SP ⟨rfl,hb⟩;have bL:=ah.mk (aX (g:=gG) (o:= .cells #[.string aI,.string aZ,.bool false] 30 (0,0)) rM hb);have bS:=ah.mk (aC jS hb);clear dg;clear HB;have dg:=bL;have HB:=bS;clear bL bS;(try clear hb);(try clear hb2);(try clear hk);(try clear hi)))
      go_ret
      exact ⟨cO,jS⟩
     ·replace Dj:=Bool.eq_false_iff.mpr Dj
      subst Dj
      have H1:(some false)=some r:=by rw [if_neg (show ¬ (false=true) by decide)] at H;exact H
      clear H
      have H:=H1
      clear H1
      obtain rfl:=Option.some.inj H
      have Ea:wr.cell? ⟨gG,0,none⟩=some (.string aI):=(af dg.out 0).trans rfl
      have Eb:wr.cell? ⟨gG,1,none⟩=some (.string aZ):=(af dg.out 1).trans rfl
      have XJ:wr.cell? ⟨gG,2,none⟩=some (.bool false):=(af dg.out 2).trans rfl
      have Ec:=aa dg.out 0
      have Ed:=aa dg.out 1
      have XK:=aa dg.out 2
      go_wp2_with (first|((with_reducible refine aU (f:=58) rfl ?_);refine cB (some 41) rfl rfl Tryz.func58 av rfl #[.agg #[.string aI,.string aZ,.bool false]] rfl cX ?_;(with_reducible refine (ey.calls k1 aI aZ false false _ ?aW A32.out).mono ?_);(case aW=>exact aQ.below HG.out jS);rintro e w40 ⟨rfl,hb⟩;refine ⟨_,rfl,?_⟩;have bL:=ah.mk (aX (g:=gG) (o:= .cells #[.string aI,.string aZ,.bool false] 30 (0,0)) rM hb);have bS:=ah.mk (aC jS hb);clear dg;clear HB;have dg:=bL;have HB:=bS;clear bL bS;(try clear hb);(try clear hb2);(try clear hk);(try clear hi)))
      go_ret
      exact ⟨cO,jS⟩
end Go.Proofs.YtokpnfljjjjikaaGreatDoor.nK
