import Derived.Test.YtokpnfljjjjikaaGreatDoorQPtx10
namespace Go.Proofs.YtokpnfljjjjikaaGreatDoor.lO
open Go.RowKit Go.Proofs.YtokpnfljjjjikaaGreatDoor.sL Go.Proofs.aj.bw Go.Proofs.aj.eU Go.Proofs.aj.cj
attribute [local go_sem] gL gM iL iM fZ gf gP gQ
set_option linter.unusedVariables false
set_option linter.unusedSimpArgs false
def cC.l0:Nat→Int→Int→ByteArray→ByteArray→Bool→Option (Bool)
 | 0,_,_,_,_,_ =>none
 |k + 1,x6,x7,qg,oG,uM=>if x7 < x6 then (if 0≤x7 then (if x7 < (qg.size:Int) then (if (bt qg x7) < 32 then (some false) else (if (bt qg x7) > 126 then (some false) else (cC.l0 k x6 (wrap64 (x7 + 1)) qg oG uM))) else (none)) else (none)) else (if uM=true then ((cX.f k qg oG uM).bind fun t270=>(if t270=true then ((bQ.f k oG).bind fun t271=>(if t271=true then ((b7.f oG).bind fun O0=>(some (O0.toList == oG.toList))) else (some false))) else (some false))) else ((cX.f k qg oG uM).bind fun O1=>(if O1=true then ((iT.f k oG).bind fun O2=>(some O2)) else (some false))))
def cC.f (k:Nat) (bD:ByteArray) (fM:ByteArray) (bC:Bool):Option (Bool):=cC.l0 k (bD.size:Int) 0 bD fM bC
def cC.T8:Bool×List (List Nat×List Nat):=(true,[([],[]),([0],[0]),([1,1],[1]),([2],[2]),([3,2],[2,3]),([4,2,2],[2,4]),([2,5],[2,5]),([6,5],[6]),([7],[7]),([8,7],[7,8]),([9,7,7],[7,9]),([7],[7]),([11,7],[7,11]),([10,12,7],[7,10,12]),([7,13],[7,13]),([14,10,0,1,2,3,4,5,6,7,8,9,10,11,12,13,14],[14])])
def cC.B8:List Nat:=[0,1,3,7,15,31,63,127,255,511,1023,255,2303,8191,16383,32767]
theorem cC.O3:l9 .any (opsOf Tryz.f63 8)=cC.T8:=by kernel_rfl
theorem cC.Jt:nA cC.T8.2 cC.B8=true:=by kernel_rfl
set_option maxHeartbeats 8000000 in
set_option maxRecDepth 100000 in
theorem cC.calls (k:Nat) (bD:ByteArray) (fM:ByteArray) (bC:Bool) (r:Bool) (w:World) (hG:aQ w) (h:cC.f k bD fM bC=some r):
 Calls Tryz.prog 63 #[.agg #[.string bD,.string fM,.bool bC]] w fun e w'=>e= .returned (.bool r)∧Below w.heap.size w w':=by
 have Bf:=Tryz.underlying30
 have HB:=af.mk (Below.refl w.heap.size w)
 have HG:=af.mk hG
 clear hG
 have H:(cC.l0 k (bD.size:Int) 0 bD fM bC)=some r:=h
 clear h
 have H':=af.mk H
 clear H
 go_enter Tryz.func63,Tryz.ntmps63
 go_wp2_with (first|((with_reducible refine cU (N:=1) rfl ?_);refine cL ?hg (N:=1) ?hd (cs:=#[.string bD,.string fM,.bool bC]) (t:=30) ?hr ?_;(case hd=>rfl);(case hg=>rfl);(case hr=>first|(go_simp;done)|(go_simp;rfl));intro fL hg w2 dg hb;have b9:=af.mk (dg);have acR:=af.mk ((eo:w.heap.size≤fL));have PN:=af.mk ((eo:w.heap.size≤fL));replace HB:=af.mk (aH bS hb);clear hb dg hg;have C0:w2.cell? ⟨fL,0,none⟩=some (.string bD):=(ah b9.out 0).trans rfl;have C2:w2.cell? ⟨fL,1,none⟩=some (.string fM):=(ah b9.out 1).trans rfl;have aaX:w2.cell? ⟨fL,2,none⟩=some (.bool bC):=(ah b9.out 2).trans rfl;have C3:=aa b9.out 0;have C4:=aa b9.out 1;have aaY:=aa b9.out 2))
 go_loopg [7] k (fun kq v7 w'=>∃ (mj:Int),v7= .int .i64 mj∧af (cC.l0 kq (bD.size:Int) mj bD fM bC=some r)∧af (kq≤k)∧af (w'.heap[fL]? =some (.cells #[.string bD,.string fM,.bool bC] 30 (0,0)))∧af (Below w.heap.size w w'))
 case atStart=>exact ⟨(0),dG,H',⟨Nat.le_refl _⟩,⟨mM⟩,⟨gG⟩⟩
 case round=>
  clear H'
  obtain ⟨mj,rfl,HA,sI,b9,HB⟩:=hrel
  cases gk with
  |zero=>exact absurd HA.out (by simp [cC.l0])
  |succ k1=>
   have H:=HA.out
   clear HA
   simp only [cC.l0] at H
   by_cases c4:mj < (bD.size:Int)
   ·rw [if_pos c4] at H
    have nj:=decide_eq_true c4
    clear c4
    obtain ⟨c5,H⟩:=jA H
    have pG:=decide_eq_true c5
    clear c5
    obtain ⟨c6,H⟩:=jA H
    have qo:=decide_eq_true c6
    clear c6
    by_cases c8:(bt bD mj) < 32
    ·rw [if_pos c8] at H
     have qN:=decide_eq_true c8
     clear c8
     obtain rfl:=Option.some.inj H
     have nM:wr.cell? ⟨fL,0,none⟩=some (.string bD):=(ah b9.out 0).trans rfl
     have nN:wr.cell? ⟨fL,1,none⟩=some (.string fM):=(ah b9.out 1).trans rfl
     have vT:wr.cell? ⟨fL,2,none⟩=some (.bool bC):=(ah b9.out 2).trans rfl
     have nO:=aa b9.out 0
     have nP:=aa b9.out 1
     have vU:=aa b9.out 2
     have p7: 0≤(mj:Int):=of_decide_eq_true cE
     have q7:mj < (bD.size:Int):=of_decide_eq_true cE
     have K7:=iW bD mj
     replace p7:=eq_true p7
     replace q7:=eq_true q7
     go_wp2
     go_ret
     exact ⟨cM,gG⟩
    ·rw [if_neg c8] at H
     have qN:=decide_eq_false c8
     clear c8
     by_cases c11:(bt bD mj) > 126
     ·rw [if_pos c11] at H
      have xL:decide (126 < (bt bD mj))=true:=decide_eq_true c11
      clear c11
      obtain rfl:=Option.some.inj H
      have zN:wr.cell? ⟨fL,0,none⟩=some (.string bD):=(ah b9.out 0).trans rfl
      have zO:wr.cell? ⟨fL,1,none⟩=some (.string fM):=(ah b9.out 1).trans rfl
      have FI:wr.cell? ⟨fL,2,none⟩=some (.bool bC):=(ah b9.out 2).trans rfl
      have zP:=aa b9.out 0
      have zQ:=aa b9.out 1
      have FJ:=aa b9.out 2
      have p7: 0≤(mj:Int):=of_decide_eq_true cE
      have q7:mj < (bD.size:Int):=of_decide_eq_true cE
      have K7:=iW bD mj
      replace p7:=eq_true p7
      replace q7:=eq_true q7
      have QW: 0≤(mj:Int):=of_decide_eq_true cE
      have QX:mj < (bD.size:Int):=of_decide_eq_true cE
      have aaZ:=iW bD mj
      replace QW:=eq_true QW
      replace QX:=eq_true QX
      go_wp2
      go_ret
      exact ⟨cM,gG⟩
     ·rw [if_neg c11] at H
      have xL:decide (126 < (bt bD mj))=false:=decide_eq_false c11
      clear c11
      have H':=af.mk H
      clear H
      have rJ:wr.cell? ⟨fL,0,none⟩=some (.string bD):=(ah b9.out 0).trans rfl
      have rK:wr.cell? ⟨fL,1,none⟩=some (.string fM):=(ah b9.out 1).trans rfl
      have FL:wr.cell? ⟨fL,2,none⟩=some (.bool bC):=(ah b9.out 2).trans rfl
      have rL:=aa b9.out 0
      have rM:=aa b9.out 1
      have FM:=aa b9.out 2
      have p7: 0≤(mj:Int):=of_decide_eq_true cE
      have q7:mj < (bD.size:Int):=of_decide_eq_true cE
      have K7:=iW bD mj
      replace p7:=eq_true p7
      replace q7:=eq_true q7
      have QW: 0≤(mj:Int):=of_decide_eq_true cE
      have QX:mj < (bD.size:Int):=of_decide_eq_true cE
      have aaZ:=iW bD mj
      replace QW:=eq_true QW
      replace QX:=eq_true QX
      go_wp2
      go_roundg k1
      case measure=>have:=sI.out;omega
      case rel=>exact ⟨(wrap64 (mj + 1)),dG,H',⟨kV⟩,⟨mM⟩,⟨gG⟩⟩
   ·rw [if_neg c4] at H
    have nj:=decide_eq_false c4
    clear c4
    by_cases c14:bC=true
    ·subst c14
     rw [if_pos rfl] at H
     obtain ⟨t270,PC,H⟩:=bd_ H
     by_cases c16:t270=true
     ·subst c16
      rw [if_pos rfl] at H
      obtain ⟨t271,VM,H⟩:=bd_ H
      by_cases c18:t271=true
      ·subst c18
       rw [if_pos rfl] at H
       obtain ⟨O0,A19,H⟩:=bd_ H
       obtain rfl:=Option.some.inj H
       have EJ:wr.cell? ⟨fL,0,none⟩=some (.string bD):=(ah b9.out 0).trans rfl
       have EK:wr.cell? ⟨fL,1,none⟩=some (.string fM):=(ah b9.out 1).trans rfl
       have VP:wr.cell? ⟨fL,2,none⟩=some (.bool true):=(ah b9.out 2).trans rfl
       have EL:=aa b9.out 0
       have EM:=aa b9.out 1
       have VQ:=aa b9.out 2
       try go_wp2
       have fH:=af.mk (aY b9.out)
       have fI:=af.mk (aW HB.out)
       clear b9
       clear HB
       have b9:=fH
       have HB:=fI
       clear fH fI
       refine pz (n:=16) (S:=fun w'=>w'.cell? ⟨fL,0,none⟩=some (.string bD)∧w'.cell? ⟨fL,1,none⟩=some (.string fM)∧w'.cell? ⟨fL,2,none⟩=some (.bool true)) (ds:=[]) #[false,false,false,false,false,false,false,false,false,false,false,false,false,false,false,false] ay (by rfl) (by rfl) ⟨(ah b9.out 0).trans rfl,(ah b9.out 1).trans rfl,(ah b9.out 2).trans rfl⟩ (fun hHeld=>?_);refine mD cC.O3 cC.Jt (fun iq AP=>?_)
       generalize wr.drew=w21 at b9 HB hHeld ⊢
       refine jh (i:=0) (N:=some 25) #[true,false,false,false,false,false,false,false,false,false,false,false,false,false,false,false] rfl rfl (ji iq.out AP.out ay) (fun _ _ _ h=>h) (Or.inl ⟨by rfl,qK⟩) hHeld eV ?_
       refine rD (i:=1) (N:=some 26) #[true,true,false,false,false,false,false,false,false,false,false,false,false,false,false,false] rfl rfl (mW iq.out ay) bg (fun K hK=>?_)
       refine nV Tryz.func58 ay rfl #[.agg #[.string bD,.string fM,.bool true]] (by rfl) rfl rfl cr ?_
       with_reducible refine (cX.calls k1 bD fM true true _ ?aX PC.out).mono ?_
       (case aX=>exact aQ.below HG.out gG)
       rintro e GA ⟨rfl,hb⟩
       refine ⟨_,rfl,?_⟩
       have fH:=af.mk (bq mM hb)
       have fI:=af.mk (aH gG hb)
       clear b9
       clear HB
       have b9:=fH
       have HB:=fI
       clear fH fI
       refine hK.out _ _ ⟨(ah b9.out 0).trans rfl,(ah b9.out 1).trans rfl,(ah b9.out 2).trans rfl⟩ (fun hHeld=>?_)
       clear hK K
       refine nU (a':=?_) ?_ ?_
       rotate_left
       ·show Act.put _ (some 26) _=_
        simp only [Act.put,List.setIfInBounds_toArray,List.set_cons_zero,List.set_cons_succ,cm,cw]
        rfl
       refine cA (i:=2) (N:=some 27) #[true,true,true,false,false,false,false,false,false,false,false,false,false,false,false,false] rfl rfl (cR iq.out ay) (fun _ _ _ h=>h) (Or.inl ⟨by rfl,eT⟩) eV ?_
       refine cA (i:=3) (N:=some 28) #[true,true,true,true,false,false,false,false,false,false,false,false,false,false,false,false] rfl rfl (cR iq.out ay) (fun _ _ _ h=>h) (Or.inl ⟨by rfl,eT⟩) eV ?_
       refine jh (i:=4) (N:=some 29) #[true,true,true,true,true,false,false,false,false,false,false,false,false,false,false,false] rfl rfl (ji iq.out AP.out ay) (fun _ _ _ h=>h) (Or.inl ⟨by rfl,qK⟩) hHeld eV ?_
       refine rD (i:=5) (N:=some 30) #[true,true,true,true,true,true,false,false,false,false,false,false,false,false,false,false] rfl rfl (mW iq.out ay) bg (fun K hK=>?_)
       refine nV Tryz.func27 ay rfl #[.string fM] (by rfl) rfl rfl cr ?_
       with_reducible refine (bQ.calls k1 fM true _ ?aX VM.out).mono ?_
       (case aX=>exact aQ.below HG.out gG)
       rintro e PA ⟨rfl,hb⟩
       refine ⟨_,rfl,?_⟩
       have fH:=af.mk (bq mM hb)
       have fI:=af.mk (aH gG hb)
       clear b9
       clear HB
       have b9:=fH
       have HB:=fI
       clear fH fI
       refine hK.out _ _ ⟨(ah b9.out 0).trans rfl,(ah b9.out 1).trans rfl,(ah b9.out 2).trans rfl⟩ (fun hHeld=>?_)
       clear hK K
       refine nU (a':=?_) ?_ ?_
       rotate_left
       ·show Act.put _ (some 30) _=_
        simp only [Act.put,List.setIfInBounds_toArray,List.set_cons_zero,List.set_cons_succ,cm,cw]
        rfl
       refine cA (i:=6) (N:=some 31) #[true,true,true,true,true,true,true,false,false,false,false,false,false,false,false,false] rfl rfl (cR iq.out ay) (fun _ _ _ h=>h) (Or.inl ⟨by rfl,eT⟩) eV ?_
       refine cA (i:=7) (N:=some 32) #[true,true,true,true,true,true,true,true,false,false,false,false,false,false,false,false] rfl rfl (cR iq.out ay) (fun _ _ _ h=>h) (Or.inl ⟨by rfl,eT⟩) eV ?_
       refine cA (i:=8) (N:=some 33) #[true,true,true,true,true,true,true,true,true,false,false,false,false,false,false,false] rfl rfl (cR iq.out ay) (fun _ _ _ h=>h) (Or.inl ⟨by rfl,eT⟩) eV ?_
       refine cA (i:=11) (N:=some 36) #[true,true,true,true,true,true,true,true,true,false,false,true,false,false,false,false] rfl rfl (cR iq.out ay) (fun _ _ _ h=>h) (Or.inl ⟨by rfl,eT⟩) eV ?_
       refine jh (i:=9) (N:=some 34) #[true,true,true,true,true,true,true,true,true,true,false,true,false,false,false,false] rfl rfl (ji iq.out AP.out ay) (fun _ _ _ h=>h) (Or.inl ⟨by rfl,qK⟩) hHeld eV ?_
       refine jh (i:=12) (N:=some 37) #[true,true,true,true,true,true,true,true,true,true,false,true,true,false,false,false] rfl rfl (ji iq.out AP.out ay) (fun _ _ _ h=>h) (Or.inl ⟨by rfl,qK⟩) hHeld eV ?_
       refine rD (i:=10) (N:=some 35) #[true,true,true,true,true,true,true,true,true,true,true,true,true,false,false,false] rfl rfl (mW iq.out ay) bg (fun K hK=>?_)
       refine nV Tryz.func81 ay rfl #[.string fM] (by rfl) rfl rfl cr ?_
       with_reducible refine (b7.calls fM O0 _ A19.out).mono ?_
       rintro e Hr ⟨rfl,hb⟩
       refine ⟨_,rfl,?_⟩
       have fH:=af.mk (bq mM hb)
       have fI:=af.mk (aH gG hb)
       clear b9
       clear HB
       have b9:=fH
       have HB:=fI
       clear fH fI
       refine hK.out _ _ ⟨(ah b9.out 0).trans rfl,(ah b9.out 1).trans rfl,(ah b9.out 2).trans rfl⟩ (fun hHeld=>?_)
       clear hK K
       refine nU (a':=?_) ?_ ?_
       rotate_left
       ·show Act.put _ (some 35) _=_
        simp only [Act.put,List.setIfInBounds_toArray,List.set_cons_zero,List.set_cons_succ,cm,cw]
        rfl
       refine cA (i:=13) (N:=some 38) #[true,true,true,true,true,true,true,true,true,true,true,true,true,true,false,false] rfl rfl (cR iq.out ay) (fun _ _ _ h=>h) (Or.inl ⟨by rfl,eT⟩) eV ?_
       refine cA (i:=14) (N:=some 39) #[true,true,true,true,true,true,true,true,true,true,true,true,true,true,true,false] rfl rfl (cR iq.out ay) (fun _ _ _ h=>h) (Or.inl ⟨by rfl,eT⟩) eV ?_
       refine cA (i:=15) (N:=some 2) #[true,true,true,true,true,true,true,true,true,true,true,true,true,true,true,true] rfl rfl (cR iq.out ay) (fun _ _ _ h=>h) (Or.inl ⟨by rfl,eT⟩) eV ?_
       refine tA (p8 iq.out ay) ?_
       try go_wp2
       go_ret
       exact ⟨cM,gG⟩
      ·replace c18:=Bool.eq_false_iff.mpr c18
       subst c18
       rw [if_neg (show ¬ (false=true) by decide)] at H
       obtain rfl:=Option.some.inj H
       have uG:wr.cell? ⟨fL,0,none⟩=some (.string bD):=(ah b9.out 0).trans rfl
       have uH:wr.cell? ⟨fL,1,none⟩=some (.string fM):=(ah b9.out 1).trans rfl
       have uI:wr.cell? ⟨fL,2,none⟩=some (.bool true):=(ah b9.out 2).trans rfl
       have uJ:=aa b9.out 0
       have uK:=aa b9.out 1
       have uL:=aa b9.out 2
       try go_wp2
       have fH:=af.mk (aY b9.out)
       have fI:=af.mk (aW HB.out)
       clear b9
       clear HB
       have b9:=fH
       have HB:=fI
       clear fH fI
       refine pz (n:=16) (S:=fun w'=>w'.cell? ⟨fL,0,none⟩=some (.string bD)∧w'.cell? ⟨fL,1,none⟩=some (.string fM)∧w'.cell? ⟨fL,2,none⟩=some (.bool true)) (ds:=[]) #[false,false,false,false,false,false,false,false,false,false,false,false,false,false,false,false] ay (by rfl) (by rfl) ⟨(ah b9.out 0).trans rfl,(ah b9.out 1).trans rfl,(ah b9.out 2).trans rfl⟩ (fun hHeld=>?_);refine mD cC.O3 cC.Jt (fun iq AP=>?_)
       generalize wr.drew=Lr at b9 HB hHeld ⊢
       refine jh (i:=0) (N:=some 25) #[true,false,false,false,false,false,false,false,false,false,false,false,false,false,false,false] rfl rfl (ji iq.out AP.out ay) (fun _ _ _ h=>h) (Or.inl ⟨by rfl,qK⟩) hHeld eV ?_
       refine rD (i:=1) (N:=some 26) #[true,true,false,false,false,false,false,false,false,false,false,false,false,false,false,false] rfl rfl (mW iq.out ay) bg (fun K hK=>?_)
       refine nV Tryz.func58 ay rfl #[.agg #[.string bD,.string fM,.bool true]] (by rfl) rfl rfl cr ?_
       with_reducible refine (cX.calls k1 bD fM true true _ ?aX PC.out).mono ?_
       (case aX=>exact aQ.below HG.out gG)
       rintro e w27 ⟨rfl,hb⟩
       refine ⟨_,rfl,?_⟩
       have fH:=af.mk (bq mM hb)
       have fI:=af.mk (aH gG hb)
       clear b9
       clear HB
       have b9:=fH
       have HB:=fI
       clear fH fI
       refine hK.out _ _ ⟨(ah b9.out 0).trans rfl,(ah b9.out 1).trans rfl,(ah b9.out 2).trans rfl⟩ (fun hHeld=>?_)
       clear hK K
       refine nU (a':=?_) ?_ ?_
       rotate_left
       ·show Act.put _ (some 26) _=_
        simp only [Act.put,List.setIfInBounds_toArray,List.set_cons_zero,List.set_cons_succ,cm,cw]
        rfl
       refine cA (i:=2) (N:=some 27) #[true,true,true,false,false,false,false,false,false,false,false,false,false,false,false,false] rfl rfl (cR iq.out ay) (fun _ _ _ h=>h) (Or.inl ⟨by rfl,eT⟩) eV ?_
       refine cA (i:=3) (N:=some 28) #[true,true,true,true,false,false,false,false,false,false,false,false,false,false,false,false] rfl rfl (cR iq.out ay) (fun _ _ _ h=>h) (Or.inl ⟨by rfl,eT⟩) eV ?_
       refine jh (i:=4) (N:=some 29) #[true,true,true,true,true,false,false,false,false,false,false,false,false,false,false,false] rfl rfl (ji iq.out AP.out ay) (fun _ _ _ h=>h) (Or.inl ⟨by rfl,qK⟩) hHeld eV ?_
       refine rD (i:=5) (N:=some 30) #[true,true,true,true,true,true,false,false,false,false,false,false,false,false,false,false] rfl rfl (mW iq.out ay) bg (fun K hK=>?_)
       refine nV Tryz.func27 ay rfl #[.string fM] (by rfl) rfl rfl cr ?_
       with_reducible refine (bQ.calls k1 fM false _ ?aX VM.out).mono ?_
       (case aX=>exact aQ.below HG.out gG)
       rintro e w28 ⟨rfl,hb⟩
       refine ⟨_,rfl,?_⟩
       have fH:=af.mk (bq mM hb)
       have fI:=af.mk (aH gG hb)
       clear b9
       clear HB
       have b9:=fH
       have HB:=fI
       clear fH fI
       refine hK.out _ _ ⟨(ah b9.out 0).trans rfl,(ah b9.out 1).trans rfl,(ah b9.out 2).trans rfl⟩ (fun hHeld=>?_)
       clear hK K
       refine nU (a':=?_) ?_ ?_
       rotate_left
       ·show Act.put _ (some 30) _=_
        simp only [Act.put,List.setIfInBounds_toArray,List.set_cons_zero,List.set_cons_succ,cm,cw]
        rfl
       refine cA (i:=6) (N:=some 31) #[true,true,true,true,true,true,true,false,false,false,false,false,false,false,false,false] rfl rfl (cR iq.out ay) (fun _ _ _ h=>h) (Or.inl ⟨by rfl,eT⟩) eV ?_
       refine cA (i:=7) (N:=some 32) #[true,true,true,true,true,true,true,true,false,false,false,false,false,false,false,false] rfl rfl (cR iq.out ay) (fun _ _ _ h=>h) (Or.inl ⟨by rfl,eT⟩) eV ?_
       refine cA (i:=8) (N:=some 33) (v:=undef) (a':=?_) #[true,true,true,true,true,true,true,true,true,false,false,false,false,false,false,false] rfl rfl (cR iq.out ay) (fun _ _ _ h=>h) (Or.inr ⟨by rfl,rfl⟩) ?_ ?_
       rotate_left
       ·simp only [Act.put,List.setIfInBounds_toArray,List.set_cons_zero,List.set_cons_succ,cm,cw]
        rfl
       refine cA (i:=9) (N:=some 34) (v:=undef) (a':=?_) #[true,true,true,true,true,true,true,true,true,true,false,false,false,false,false,false] rfl rfl (cR iq.out ay) (fun _ _ _ h=>h) (Or.inr ⟨by rfl,rfl⟩) ?_ ?_
       rotate_left
       ·simp only [Act.put,List.setIfInBounds_toArray,List.set_cons_zero,List.set_cons_succ,cm,cw]
        rfl
       refine cA (i:=10) (N:=some 35) (v:=undef) (a':=?_) #[true,true,true,true,true,true,true,true,true,true,true,false,false,false,false,false] rfl rfl (cR iq.out ay) (fun _ _ _ h=>h) (Or.inr ⟨by rfl,rfl⟩) ?_ ?_
       rotate_left
       ·simp only [Act.put,List.setIfInBounds_toArray,List.set_cons_zero,List.set_cons_succ,cm,cw]
        rfl
       refine cA (i:=11) (N:=some 36) (v:=undef) (a':=?_) #[true,true,true,true,true,true,true,true,true,true,true,true,false,false,false,false] rfl rfl (cR iq.out ay) (fun _ _ _ h=>h) (Or.inr ⟨by rfl,rfl⟩) ?_ ?_
       rotate_left
       ·simp only [Act.put,List.setIfInBounds_toArray,List.set_cons_zero,List.set_cons_succ,cm,cw]
        rfl
       refine cA (i:=12) (N:=some 37) (v:=undef) (a':=?_) #[true,true,true,true,true,true,true,true,true,true,true,true,true,false,false,false] rfl rfl (cR iq.out ay) (fun _ _ _ h=>h) (Or.inr ⟨by rfl,rfl⟩) ?_ ?_
       rotate_left
       ·simp only [Act.put,List.setIfInBounds_toArray,List.set_cons_zero,List.set_cons_succ,cm,cw]
        rfl
       refine cA (i:=13) (N:=some 38) (v:=undef) (a':=?_) #[true,true,true,true,true,true,true,true,true,true,true,true,true,true,false,false] rfl rfl (cR iq.out ay) (fun _ _ _ h=>h) (Or.inr ⟨by rfl,rfl⟩) ?_ ?_
       rotate_left
       ·simp only [Act.put,List.setIfInBounds_toArray,List.set_cons_zero,List.set_cons_succ,cm,cw]
        rfl
       refine cA (i:=14) (N:=some 39) #[true,true,true,true,true,true,true,true,true,true,true,true,true,true,true,false] rfl rfl (cR iq.out ay) (fun _ _ _ h=>h) (Or.inl ⟨by rfl,eT⟩) eV ?_
       refine cA (i:=15) (N:=some 2) #[true,true,true,true,true,true,true,true,true,true,true,true,true,true,true,true] rfl rfl (cR iq.out ay) (fun _ _ _ h=>h) (Or.inl ⟨by rfl,eT⟩) eV ?_
       refine tA (p8 iq.out ay) ?_
       try go_wp2
       go_ret
       exact ⟨cM,gG⟩
     ·replace c16:=Bool.eq_false_iff.mpr c16
      subst c16
      rw [if_neg (show ¬ (false=true) by decide)] at H
      obtain rfl:=Option.some.inj H
      have EU:wr.cell? ⟨fL,0,none⟩=some (.string bD):=(ah b9.out 0).trans rfl
      have EW:wr.cell? ⟨fL,1,none⟩=some (.string fM):=(ah b9.out 1).trans rfl
      have L4:wr.cell? ⟨fL,2,none⟩=some (.bool true):=(ah b9.out 2).trans rfl
      have EX:=aa b9.out 0
      have EY:=aa b9.out 1
      have L5:=aa b9.out 2
      try go_wp2
      have fH:=af.mk (aY b9.out)
      have fI:=af.mk (aW HB.out)
      clear b9
      clear HB
      have b9:=fH
      have HB:=fI
      clear fH fI
      refine pz (n:=16) (S:=fun w'=>w'.cell? ⟨fL,0,none⟩=some (.string bD)∧w'.cell? ⟨fL,1,none⟩=some (.string fM)∧w'.cell? ⟨fL,2,none⟩=some (.bool true)) (ds:=[]) #[false,false,false,false,false,false,false,false,false,false,false,false,false,false,false,false] ay (by rfl) (by rfl) ⟨(ah b9.out 0).trans rfl,(ah b9.out 1).trans rfl,(ah b9.out 2).trans rfl⟩ (fun hHeld=>?_);refine mD cC.O3 cC.Jt (fun iq AP=>?_)
      generalize wr.drew=w30 at b9 HB hHeld ⊢
      refine jh (i:=0) (N:=some 25) #[true,false,false,false,false,false,false,false,false,false,false,false,false,false,false,false] rfl rfl (ji iq.out AP.out ay) (fun _ _ _ h=>h) (Or.inl ⟨by rfl,qK⟩) hHeld eV ?_
      refine rD (i:=1) (N:=some 26) #[true,true,false,false,false,false,false,false,false,false,false,false,false,false,false,false] rfl rfl (mW iq.out ay) bg (fun K hK=>?_)
      refine nV Tryz.func58 ay rfl #[.agg #[.string bD,.string fM,.bool true]] (by rfl) rfl rfl cr ?_
      with_reducible refine (cX.calls k1 bD fM true false _ ?aX PC.out).mono ?_
      (case aX=>exact aQ.below HG.out gG)
      rintro e OZ ⟨rfl,hb⟩
      refine ⟨_,rfl,?_⟩
      have fH:=af.mk (bq mM hb)
      have fI:=af.mk (aH gG hb)
      clear b9
      clear HB
      have b9:=fH
      have HB:=fI
      clear fH fI
      refine hK.out _ _ ⟨(ah b9.out 0).trans rfl,(ah b9.out 1).trans rfl,(ah b9.out 2).trans rfl⟩ (fun hHeld=>?_)
      clear hK K
      refine nU (a':=?_) ?_ ?_
      rotate_left
      ·show Act.put _ (some 26) _=_
       simp only [Act.put,List.setIfInBounds_toArray,List.set_cons_zero,List.set_cons_succ,cm,cw]
       rfl
      refine cA (i:=2) (N:=some 27) #[true,true,true,false,false,false,false,false,false,false,false,false,false,false,false,false] rfl rfl (cR iq.out ay) (fun _ _ _ h=>h) (Or.inl ⟨by rfl,eT⟩) eV ?_
      refine cA (i:=3) (N:=some 28) (v:=undef) (a':=?_) #[true,true,true,true,false,false,false,false,false,false,false,false,false,false,false,false] rfl rfl (cR iq.out ay) (fun _ _ _ h=>h) (Or.inr ⟨by rfl,rfl⟩) ?_ ?_
      rotate_left
      ·simp only [Act.put,List.setIfInBounds_toArray,List.set_cons_zero,List.set_cons_succ,cm,cw]
       rfl
      refine cA (i:=4) (N:=some 29) (v:=undef) (a':=?_) #[true,true,true,true,true,false,false,false,false,false,false,false,false,false,false,false] rfl rfl (cR iq.out ay) (fun _ _ _ h=>h) (Or.inr ⟨by rfl,rfl⟩) ?_ ?_
      rotate_left
      ·simp only [Act.put,List.setIfInBounds_toArray,List.set_cons_zero,List.set_cons_succ,cm,cw]
       rfl
      refine cA (i:=5) (N:=some 30) (v:=undef) (a':=?_) #[true,true,true,true,true,true,false,false,false,false,false,false,false,false,false,false] rfl rfl (cR iq.out ay) (fun _ _ _ h=>h) (Or.inr ⟨by rfl,rfl⟩) ?_ ?_
      rotate_left
      ·simp only [Act.put,List.setIfInBounds_toArray,List.set_cons_zero,List.set_cons_succ,cm,cw]
       rfl
      refine cA (i:=6) (N:=some 31) #[true,true,true,true,true,true,true,false,false,false,false,false,false,false,false,false] rfl rfl (cR iq.out ay) (fun _ _ _ h=>h) (Or.inl ⟨by rfl,eT⟩) eV ?_
      refine cA (i:=7) (N:=some 32) #[true,true,true,true,true,true,true,true,false,false,false,false,false,false,false,false] rfl rfl (cR iq.out ay) (fun _ _ _ h=>h) (Or.inl ⟨by rfl,eT⟩) eV ?_
      refine cA (i:=8) (N:=some 33) (v:=undef) (a':=?_) #[true,true,true,true,true,true,true,true,true,false,false,false,false,false,false,false] rfl rfl (cR iq.out ay) (fun _ _ _ h=>h) (Or.inr ⟨by rfl,rfl⟩) ?_ ?_
      rotate_left
      ·simp only [Act.put,List.setIfInBounds_toArray,List.set_cons_zero,List.set_cons_succ,cm,cw]
       rfl
      refine cA (i:=9) (N:=some 34) (v:=undef) (a':=?_) #[true,true,true,true,true,true,true,true,true,true,false,false,false,false,false,false] rfl rfl (cR iq.out ay) (fun _ _ _ h=>h) (Or.inr ⟨by rfl,rfl⟩) ?_ ?_
      rotate_left
      ·simp only [Act.put,List.setIfInBounds_toArray,List.set_cons_zero,List.set_cons_succ,cm,cw]
       rfl
      refine cA (i:=10) (N:=some 35) (v:=undef) (a':=?_) #[true,true,true,true,true,true,true,true,true,true,true,false,false,false,false,false] rfl rfl (cR iq.out ay) (fun _ _ _ h=>h) (Or.inr ⟨by rfl,rfl⟩) ?_ ?_
      rotate_left
      ·simp only [Act.put,List.setIfInBounds_toArray,List.set_cons_zero,List.set_cons_succ,cm,cw]
       rfl
      refine cA (i:=11) (N:=some 36) (v:=undef) (a':=?_) #[true,true,true,true,true,true,true,true,true,true,true,true,false,false,false,false] rfl rfl (cR iq.out ay) (fun _ _ _ h=>h) (Or.inr ⟨by rfl,rfl⟩) ?_ ?_
      rotate_left
      ·simp only [Act.put,List.setIfInBounds_toArray,List.set_cons_zero,List.set_cons_succ,cm,cw]
       rfl
      refine cA (i:=12) (N:=some 37) (v:=undef) (a':=?_) #[true,true,true,true,true,true,true,true,true,true,true,true,true,false,false,false] rfl rfl (cR iq.out ay) (fun _ _ _ h=>h) (Or.inr ⟨by rfl,rfl⟩) ?_ ?_
      rotate_left
      ·simp only [Act.put,List.setIfInBounds_toArray,List.set_cons_zero,List.set_cons_succ,cm,cw]
       rfl
      refine cA (i:=13) (N:=some 38) (v:=undef) (a':=?_) #[true,true,true,true,true,true,true,true,true,true,true,true,true,true,false,false] rfl rfl (cR iq.out ay) (fun _ _ _ h=>h) (Or.inr ⟨by rfl,rfl⟩) ?_ ?_
      rotate_left
      ·simp only [Act.put,List.setIfInBounds_toArray,List.set_cons_zero,List.set_cons_succ,cm,cw]
       rfl
      refine cA (i:=14) (N:=some 39) #[true,true,true,true,true,true,true,true,true,true,true,true,true,true,true,false] rfl rfl (cR iq.out ay) (fun _ _ _ h=>h) (Or.inl ⟨by rfl,eT⟩) eV ?_
      refine cA (i:=15) (N:=some 2) #[true,true,true,true,true,true,true,true,true,true,true,true,true,true,true,true] rfl rfl (cR iq.out ay) (fun _ _ _ h=>h) (Or.inl ⟨by rfl,eT⟩) eV ?_
      refine tA (p8 iq.out ay) ?_
      try go_wp2
      go_ret
      exact ⟨cM,gG⟩
    ·replace c14:=Bool.eq_false_iff.mpr c14
     subst c14
     rw [if_neg (show ¬ (false=true) by decide)] at H
     obtain ⟨O1,Td,H⟩:=bd_ H
     by_cases VR:O1=true
     ·subst VR
      rw [if_pos rfl] at H
      obtain ⟨O2,Tc,H⟩:=bd_ H
      obtain rfl:=Option.some.inj H
      have LG:wr.cell? ⟨fL,0,none⟩=some (.string bD):=(ah b9.out 0).trans rfl
      have LH:wr.cell? ⟨fL,1,none⟩=some (.string fM):=(ah b9.out 1).trans rfl
      have LI:wr.cell? ⟨fL,2,none⟩=some (.bool false):=(ah b9.out 2).trans rfl
      have LJ:=aa b9.out 0
      have LK:=aa b9.out 1
      have LL:=aa b9.out 2
      go_wp2_with (first|((with_reducible refine aU (f:=58) rfl ?_);refine bY (some 41) rfl rfl Tryz.func58 ay rfl #[.agg #[.string bD,.string fM,.bool false]] rfl cr ?_;(with_reducible refine (cX.calls k1 bD fM false true _ ?aX Td.out).mono ?_);(case aX=>exact aQ.below HG.out gG);rintro e Ky ⟨rfl,hb⟩;refine ⟨_,rfl,?_⟩;replace b9:=af.mk (bq mM hb);replace HB:=af.mk (aH gG hb);(try clear hb);have VS:Ky.cell? ⟨fL,0,none⟩=some (.string bD):=(ah b9.out 0).trans rfl;have VT:Ky.cell? ⟨fL,1,none⟩=some (.string fM):=(ah b9.out 1).trans rfl;have VU:Ky.cell? ⟨fL,2,none⟩=some (.bool false):=(ah b9.out 2).trans rfl;have VV:=aa b9.out 0;have VW:=aa b9.out 1;have VX:=aa b9.out 2)|(go_at_call 65;(with_reducible refine (iT.calls k1 fM O2 _ ?aX Tc.out).mono ?_);(case aX=>exact aQ.below HG.out gG);rintro e w38 ⟨rfl,hb⟩;replace b9:=af.mk (bq mM hb);replace HB:=af.mk (aH gG hb);(try clear hb)))
      go_ret
      exact ⟨cM,gG⟩
     ·replace VR:=Bool.eq_false_iff.mpr VR
      subst VR
      rw [if_neg (show ¬ (false=true) by decide)] at H
      obtain rfl:=Option.some.inj H
      have E3:wr.cell? ⟨fL,0,none⟩=some (.string bD):=(ah b9.out 0).trans rfl
      have E4:wr.cell? ⟨fL,1,none⟩=some (.string fM):=(ah b9.out 1).trans rfl
      have VY:wr.cell? ⟨fL,2,none⟩=some (.bool false):=(ah b9.out 2).trans rfl
      have E5:=aa b9.out 0
      have E6:=aa b9.out 1
      have VZ:=aa b9.out 2
      go_wp2_with (first|((with_reducible refine aU (f:=58) rfl ?_);refine bY (some 41) rfl rfl Tryz.func58 ay rfl #[.agg #[.string bD,.string fM,.bool false]] rfl cr ?_;(with_reducible refine (cX.calls k1 bD fM false false _ ?aX Td.out).mono ?_);(case aX=>exact aQ.below HG.out gG);rintro e w40 ⟨rfl,hb⟩;refine ⟨_,rfl,?_⟩;replace b9:=af.mk (bq mM hb);replace HB:=af.mk (aH gG hb);(try clear hb)))
      go_ret
      exact ⟨cM,gG⟩
end Go.Proofs.YtokpnfljjjjikaaGreatDoor.lO
