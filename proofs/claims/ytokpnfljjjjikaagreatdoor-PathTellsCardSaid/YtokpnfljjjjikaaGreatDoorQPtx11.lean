import Derived.Test.YtokpnfljjjjikaaGreatDoorQPtx10
namespace Go.Proofs.YtokpnfljjjjikaaGreatDoor.mY
open Go.RowKit Go.Proofs.YtokpnfljjjjikaaGreatDoor.qP Go.Proofs.aj.bO Go.Proofs.aj.fA Go.Proofs.aj.cK
attribute [local go_sem] ia ig iU iV gf gh ij iq
set_option linter.unusedVariables false
set_option linter.unusedSimpArgs false
def dN.l0:Nat→Int→Int→ByteArray→ByteArray→Bool→Option (Bool)
 | 0,_,_,_,_,_ =>none
 |k + 1,x6,x7,yG,vv,Er=>if x7 < x6 then (if 0≤x7 then (if x7 < (yG.size:Int) then (if (bt yG x7) < 32 then (some false) else (if (bt yG x7) > 126 then (some false) else (dN.l0 k x6 (wrap64 (x7 + 1)) yG vv Er))) else (none)) else (none)) else (if Er=true then ((eD.f k yG vv Er).bind fun t270=>(if t270=true then ((cI.f k vv).bind fun t271=>(if t271=true then ((cS.f vv).bind fun adz=>(some (adz.toList == vv.toList))) else (some false))) else (some false))) else ((eD.f k yG vv Er).bind fun adA=>(if adA=true then ((mE.f k vv).bind fun adB=>(some adB)) else (some false))))
def dN.f (k:Nat) (bS:ByteArray) (dZ:ByteArray) (cg:Bool):Option (Bool):=dN.l0 k (bS.size:Int) 0 bS dZ cg
def dN.T8:Bool×List (List Nat×List Nat):=(true,[([],[]),([0],[0]),([1,1],[1]),([2],[2]),([3,2],[2,3]),([4,2,2],[2,4]),([2,5],[2,5]),([6,5],[6]),([7],[7]),([8,7],[7,8]),([9,7,7],[7,9]),([7],[7]),([11,7],[7,11]),([10,12,7],[7,10,12]),([7,13],[7,13]),([14,10,0,1,2,3,4,5,6,7,8,9,10,11,12,13,14],[14])])
def dN.B8:List Nat:=[0,1,3,7,15,31,63,127,255,511,1023,255,2303,8191,16383,32767]
theorem dN.adC:rF .any (opsOf Tryz.f63 8)=dN.T8:=by kernel_rfl
theorem dN.Wa:rS dN.T8.2 dN.B8=true:=by kernel_rfl
set_option maxHeartbeats 8000000 in
set_option maxRecDepth 100000 in
theorem dN.calls (k:Nat) (bS:ByteArray) (dZ:ByteArray) (cg:Bool) (r:Bool) (w:World) (hG:aJ w) (h:dN.f k bS dZ cg=some r):
 Calls Tryz.prog 63 #[.agg #[.string bS,.string dZ,.bool cg]] w fun e w'=>e= .returned (.bool r)∧Below w.heap.size w w':=by
 have wT:=Tryz.underlying30
 have HB:=aa.mk (Below.refl w.heap.size w)
 have HG:=aa.mk hG
 clear hG
 have H:(dN.l0 k (bS.size:Int) 0 bS dZ cg)=some r:=h
 clear h
 have H':=aa.mk H
 clear H
 go_enter Tryz.func63,Tryz.ntmps63
 go_wp2_with (first|((with_reducible refine cB (N:=1) rfl ?_);refine cj ?hg (N:=1) ?hd (cs:=#[.string bS,.string dZ,.bool cg]) (t:=30) ?hr ?_;(case hd=>rfl);(case hg=>rfl);(case hr=>first|(go_simp;done)|(go_simp;rfl));intro jr hg w2 cE hb;have dx:=aa.mk (cE);have ast:=aa.mk ((dI:w.heap.size≤jr));have afl:=aa.mk ((dI:w.heap.size≤jr));replace HB:=aa.mk (aA bG hb);clear hb cE hg;have N6:w2.cell? ⟨jr,0,none⟩=some (.string bS):=(ah dx.out 0).trans rfl;have N7:w2.cell? ⟨jr,1,none⟩=some (.string dZ):=(ah dx.out 1).trans rfl;have apq:w2.cell? ⟨jr,2,none⟩=some (.bool cg):=(ah dx.out 2).trans rfl;have N8:=af dx.out 0;have N9:=af dx.out 1;have apr:=af dx.out 2))
 go_loopg [7] k (fun kq v7 w'=>∃ (rU:Int),v7= .int .i64 rU∧aa (dN.l0 kq (bS.size:Int) rU bS dZ cg=some r)∧aa (kq≤k)∧aa (w'.heap[jr]? =some (.cells #[.string bS,.string dZ,.bool cg] 30 (0,0)))∧aa (Below w.heap.size w w'))
 case atStart=>exact ⟨(0),b9,H',⟨Nat.le_refl _⟩,⟨sD⟩,⟨kF⟩⟩
 case round=>
  clear H'
  obtain ⟨rU,rfl,HA,p9,dx,HB⟩:=hrel
  cases gk with
  |zero=>exact absurd HA.out (by simp [dN.l0])
  |succ k1=>
   have H:=HA.out
   clear HA
   simp only [dN.l0] at H
   by_cases c4:rU < (bS.size:Int)
   ·rw [if_pos c4] at H
    have nB:=decide_eq_true c4
    clear c4
    obtain ⟨c5,H⟩:=iA H
    have lF:=decide_eq_true c5
    clear c5
    obtain ⟨c6,H⟩:=iA H
    have nL:=decide_eq_true c6
    clear c6
    by_cases c8:(bt bS rU) < 32
    ·rw [if_pos c8] at H
     have rK:=decide_eq_true c8
     clear c8
     obtain rfl:=Option.some.inj H
     have rG:wr.cell? ⟨jr,0,none⟩=some (.string bS):=(ah dx.out 0).trans rfl
     have rH:wr.cell? ⟨jr,1,none⟩=some (.string dZ):=(ah dx.out 1).trans rfl
     have zD:wr.cell? ⟨jr,2,none⟩=some (.bool cg):=(ah dx.out 2).trans rfl
     have rI:=af dx.out 0
     have rJ:=af dx.out 1
     have zE:=af dx.out 2
     have p7: 0≤(rU:Int):=of_decide_eq_true bp
     have q7:rU < (bS.size:Int):=of_decide_eq_true bp
     have AO:=dA bS rU
     replace p7:=eq_true p7
     replace q7:=eq_true q7
     go_wp2
     go_ret
     exact ⟨cH,kF⟩
    ·rw [if_neg c8] at H
     have rK:=decide_eq_false c8
     clear c8
     by_cases c11:(bt bS rU) > 126
     ·rw [if_pos c11] at H
      have oC:decide (126 < (bt bS rU))=true:=decide_eq_true c11
      clear c11
      obtain rfl:=Option.some.inj H
      have yu:wr.cell? ⟨jr,0,none⟩=some (.string bS):=(ah dx.out 0).trans rfl
      have yw:wr.cell? ⟨jr,1,none⟩=some (.string dZ):=(ah dx.out 1).trans rfl
      have Ei:wr.cell? ⟨jr,2,none⟩=some (.bool cg):=(ah dx.out 2).trans rfl
      have yx:=af dx.out 0
      have yz:=af dx.out 1
      have Ej:=af dx.out 2
      have p7: 0≤(rU:Int):=of_decide_eq_true bp
      have q7:rU < (bS.size:Int):=of_decide_eq_true bp
      have AO:=dA bS rU
      replace p7:=eq_true p7
      replace q7:=eq_true q7
      have Ow: 0≤(rU:Int):=of_decide_eq_true bp
      have Mf:rU < (bS.size:Int):=of_decide_eq_true bp
      have Wb:=dA bS rU
      replace Ow:=eq_true Ow
      replace Mf:=eq_true Mf
      go_wp2
      go_ret
      exact ⟨cH,kF⟩
     ·rw [if_neg c11] at H
      have oC:decide (126 < (bt bS rU))=false:=decide_eq_false c11
      clear c11
      have H':=aa.mk H
      clear H
      have qD:wr.cell? ⟨jr,0,none⟩=some (.string bS):=(ah dx.out 0).trans rfl
      have qE:wr.cell? ⟨jr,1,none⟩=some (.string dZ):=(ah dx.out 1).trans rfl
      have vo:wr.cell? ⟨jr,2,none⟩=some (.bool cg):=(ah dx.out 2).trans rfl
      have qF:=af dx.out 0
      have qG:=af dx.out 1
      have vp:=af dx.out 2
      have p7: 0≤(rU:Int):=of_decide_eq_true bp
      have q7:rU < (bS.size:Int):=of_decide_eq_true bp
      have AO:=dA bS rU
      replace p7:=eq_true p7
      replace q7:=eq_true q7
      have Ow: 0≤(rU:Int):=of_decide_eq_true bp
      have Mf:rU < (bS.size:Int):=of_decide_eq_true bp
      have Wb:=dA bS rU
      replace Ow:=eq_true Ow
      replace Mf:=eq_true Mf
      go_wp2
      go_roundg k1
      case measure=>have:=p9.out;omega
      case rel=>exact ⟨(wrap64 (rU + 1)),b9,H',⟨je⟩,⟨sD⟩,⟨kF⟩⟩
   ·rw [if_neg c4] at H
    have nB:=decide_eq_false c4
    clear c4
    by_cases c14:cg=true
    ·subst c14
     rw [if_pos rfl] at H
     obtain ⟨t270,VF,H⟩:=bd_ H
     by_cases c16:t270=true
     ·subst c16
      rw [if_pos rfl] at H
      obtain ⟨t271,A17,H⟩:=bd_ H
      by_cases c18:t271=true
      ·subst c18
       rw [if_pos rfl] at H
       obtain ⟨adz,A19,H⟩:=bd_ H
       obtain rfl:=Option.some.inj H
       have Ea:wr.cell? ⟨jr,0,none⟩=some (.string bS):=(ah dx.out 0).trans rfl
       have Eb:wr.cell? ⟨jr,1,none⟩=some (.string dZ):=(ah dx.out 1).trans rfl
       have RP:wr.cell? ⟨jr,2,none⟩=some (.bool true):=(ah dx.out 2).trans rfl
       have Ec:=af dx.out 0
       have Ed:=af dx.out 1
       have RQ:=af dx.out 2
       try go_wp2
       have lJ:=aa.mk (az dx.out)
       have lK:=aa.mk (bf HB.out)
       clear dx
       clear HB
       have dx:=lJ
       have HB:=lK
       clear lJ lK
       refine rE (n:=16) (S:=fun w'=>w'.cell? ⟨jr,0,none⟩=some (.string bS)∧w'.cell? ⟨jr,1,none⟩=some (.string dZ)∧w'.cell? ⟨jr,2,none⟩=some (.bool true)) (ds:=[]) #[false,false,false,false,false,false,false,false,false,false,false,false,false,false,false,false] aq (by rfl) (by rfl) ⟨(ah dx.out 0).trans rfl,(ah dx.out 1).trans rfl,(ah dx.out 2).trans rfl⟩ (fun hHeld=>?_);refine nj dN.adC dN.Wa (fun iE zh=>?_)
       generalize wr.drew=w21 at dx HB hHeld ⊢
       refine ke (i:=0) (N:=some 25) #[true,false,false,false,false,false,false,false,false,false,false,false,false,false,false,false] rfl rfl (iO iE.out zh.out aq) (fun _ _ _ h=>h) (Or.inl ⟨by rfl,uR⟩) hHeld dL ?_
       refine zx (i:=1) (N:=some 26) #[true,true,false,false,false,false,false,false,false,false,false,false,false,false,false,false] rfl rfl (nA iE.out aq) bh (fun K hK=>?_)
       refine vV Tryz.func58 aq rfl #[.agg #[.string bS,.string dZ,.bool true]] (by rfl) rfl rfl cz ?_
       with_reducible refine (eD.calls k1 bS dZ true true _ ?aT VF.out).mono ?_
       (case aT=>exact aJ.below HG.out kF)
       rintro e BN ⟨rfl,hb⟩
       refine ⟨_,rfl,?_⟩
       have lJ:=aa.mk (aC sD hb)
       have lK:=aa.mk (aA kF hb)
       clear dx
       clear HB
       have dx:=lJ
       have HB:=lK
       clear lJ lK
       refine hK.out _ _ ⟨(ah dx.out 0).trans rfl,(ah dx.out 1).trans rfl,(ah dx.out 2).trans rfl⟩ (fun hHeld=>?_)
       clear hK K
       refine rL (a':=?_) ?_ ?_
       rotate_left
       ·show Act.put _ (some 26) _=_
        simp only [Act.put,List.setIfInBounds_toArray,List.set_cons_zero,List.set_cons_succ,cU,dh]
        rfl
       refine cO (i:=2) (N:=some 27) #[true,true,true,false,false,false,false,false,false,false,false,false,false,false,false,false] rfl rfl (cW iE.out aq) (fun _ _ _ h=>h) (Or.inl ⟨by rfl,dK⟩) dL ?_
       refine cO (i:=3) (N:=some 28) #[true,true,true,true,false,false,false,false,false,false,false,false,false,false,false,false] rfl rfl (cW iE.out aq) (fun _ _ _ h=>h) (Or.inl ⟨by rfl,dK⟩) dL ?_
       refine ke (i:=4) (N:=some 29) #[true,true,true,true,true,false,false,false,false,false,false,false,false,false,false,false] rfl rfl (iO iE.out zh.out aq) (fun _ _ _ h=>h) (Or.inl ⟨by rfl,uR⟩) hHeld dL ?_
       refine zx (i:=5) (N:=some 30) #[true,true,true,true,true,true,false,false,false,false,false,false,false,false,false,false] rfl rfl (nA iE.out aq) bh (fun K hK=>?_)
       refine vV Tryz.func27 aq rfl #[.string dZ] (by rfl) rfl rfl cz ?_
       with_reducible refine (cI.calls k1 dZ true _ ?aT A17.out).mono ?_
       (case aT=>exact aJ.below HG.out kF)
       rintro e Q4 ⟨rfl,hb⟩
       refine ⟨_,rfl,?_⟩
       have lJ:=aa.mk (aC sD hb)
       have lK:=aa.mk (aA kF hb)
       clear dx
       clear HB
       have dx:=lJ
       have HB:=lK
       clear lJ lK
       refine hK.out _ _ ⟨(ah dx.out 0).trans rfl,(ah dx.out 1).trans rfl,(ah dx.out 2).trans rfl⟩ (fun hHeld=>?_)
       clear hK K
       refine rL (a':=?_) ?_ ?_
       rotate_left
       ·show Act.put _ (some 30) _=_
        simp only [Act.put,List.setIfInBounds_toArray,List.set_cons_zero,List.set_cons_succ,cU,dh]
        rfl
       refine cO (i:=6) (N:=some 31) #[true,true,true,true,true,true,true,false,false,false,false,false,false,false,false,false] rfl rfl (cW iE.out aq) (fun _ _ _ h=>h) (Or.inl ⟨by rfl,dK⟩) dL ?_
       refine cO (i:=7) (N:=some 32) #[true,true,true,true,true,true,true,true,false,false,false,false,false,false,false,false] rfl rfl (cW iE.out aq) (fun _ _ _ h=>h) (Or.inl ⟨by rfl,dK⟩) dL ?_
       refine cO (i:=8) (N:=some 33) #[true,true,true,true,true,true,true,true,true,false,false,false,false,false,false,false] rfl rfl (cW iE.out aq) (fun _ _ _ h=>h) (Or.inl ⟨by rfl,dK⟩) dL ?_
       refine cO (i:=11) (N:=some 36) #[true,true,true,true,true,true,true,true,true,false,false,true,false,false,false,false] rfl rfl (cW iE.out aq) (fun _ _ _ h=>h) (Or.inl ⟨by rfl,dK⟩) dL ?_
       refine ke (i:=9) (N:=some 34) #[true,true,true,true,true,true,true,true,true,true,false,true,false,false,false,false] rfl rfl (iO iE.out zh.out aq) (fun _ _ _ h=>h) (Or.inl ⟨by rfl,uR⟩) hHeld dL ?_
       refine ke (i:=12) (N:=some 37) #[true,true,true,true,true,true,true,true,true,true,false,true,true,false,false,false] rfl rfl (iO iE.out zh.out aq) (fun _ _ _ h=>h) (Or.inl ⟨by rfl,uR⟩) hHeld dL ?_
       refine zx (i:=10) (N:=some 35) #[true,true,true,true,true,true,true,true,true,true,true,true,true,false,false,false] rfl rfl (nA iE.out aq) bh (fun K hK=>?_)
       refine vV Tryz.func81 aq rfl #[.string dZ] (by rfl) rfl rfl cz ?_
       with_reducible refine (cS.calls dZ adz _ A19.out).mono ?_
       rintro e RR ⟨rfl,hb⟩
       refine ⟨_,rfl,?_⟩
       have lJ:=aa.mk (aC sD hb)
       have lK:=aa.mk (aA kF hb)
       clear dx
       clear HB
       have dx:=lJ
       have HB:=lK
       clear lJ lK
       refine hK.out _ _ ⟨(ah dx.out 0).trans rfl,(ah dx.out 1).trans rfl,(ah dx.out 2).trans rfl⟩ (fun hHeld=>?_)
       clear hK K
       refine rL (a':=?_) ?_ ?_
       rotate_left
       ·show Act.put _ (some 35) _=_
        simp only [Act.put,List.setIfInBounds_toArray,List.set_cons_zero,List.set_cons_succ,cU,dh]
        rfl
       refine cO (i:=13) (N:=some 38) #[true,true,true,true,true,true,true,true,true,true,true,true,true,true,false,false] rfl rfl (cW iE.out aq) (fun _ _ _ h=>h) (Or.inl ⟨by rfl,dK⟩) dL ?_
       refine cO (i:=14) (N:=some 39) #[true,true,true,true,true,true,true,true,true,true,true,true,true,true,true,false] rfl rfl (cW iE.out aq) (fun _ _ _ h=>h) (Or.inl ⟨by rfl,dK⟩) dL ?_
       refine cO (i:=15) (N:=some 2) #[true,true,true,true,true,true,true,true,true,true,true,true,true,true,true,true] rfl rfl (cW iE.out aq) (fun _ _ _ h=>h) (Or.inl ⟨by rfl,dK⟩) dL ?_
       refine vU (qC iE.out aq) ?_
       try go_wp2
       go_ret
       exact ⟨cH,kF⟩
      ·replace c18:=Bool.eq_false_iff.mpr c18
       subst c18
       rw [if_neg (show ¬ (false=true) by decide)] at H
       obtain rfl:=Option.some.inj H
       have yc:wr.cell? ⟨jr,0,none⟩=some (.string bS):=(ah dx.out 0).trans rfl
       have yf:wr.cell? ⟨jr,1,none⟩=some (.string dZ):=(ah dx.out 1).trans rfl
       have yg:wr.cell? ⟨jr,2,none⟩=some (.bool true):=(ah dx.out 2).trans rfl
       have yh:=af dx.out 0
       have yj:=af dx.out 1
       have yl:=af dx.out 2
       try go_wp2
       have lJ:=aa.mk (az dx.out)
       have lK:=aa.mk (bf HB.out)
       clear dx
       clear HB
       have dx:=lJ
       have HB:=lK
       clear lJ lK
       refine rE (n:=16) (S:=fun w'=>w'.cell? ⟨jr,0,none⟩=some (.string bS)∧w'.cell? ⟨jr,1,none⟩=some (.string dZ)∧w'.cell? ⟨jr,2,none⟩=some (.bool true)) (ds:=[]) #[false,false,false,false,false,false,false,false,false,false,false,false,false,false,false,false] aq (by rfl) (by rfl) ⟨(ah dx.out 0).trans rfl,(ah dx.out 1).trans rfl,(ah dx.out 2).trans rfl⟩ (fun hHeld=>?_);refine nj dN.adC dN.Wa (fun iE zh=>?_)
       generalize wr.drew=VG at dx HB hHeld ⊢
       refine ke (i:=0) (N:=some 25) #[true,false,false,false,false,false,false,false,false,false,false,false,false,false,false,false] rfl rfl (iO iE.out zh.out aq) (fun _ _ _ h=>h) (Or.inl ⟨by rfl,uR⟩) hHeld dL ?_
       refine zx (i:=1) (N:=some 26) #[true,true,false,false,false,false,false,false,false,false,false,false,false,false,false,false] rfl rfl (nA iE.out aq) bh (fun K hK=>?_)
       refine vV Tryz.func58 aq rfl #[.agg #[.string bS,.string dZ,.bool true]] (by rfl) rfl rfl cz ?_
       with_reducible refine (eD.calls k1 bS dZ true true _ ?aT VF.out).mono ?_
       (case aT=>exact aJ.below HG.out kF)
       rintro e w27 ⟨rfl,hb⟩
       refine ⟨_,rfl,?_⟩
       have lJ:=aa.mk (aC sD hb)
       have lK:=aa.mk (aA kF hb)
       clear dx
       clear HB
       have dx:=lJ
       have HB:=lK
       clear lJ lK
       refine hK.out _ _ ⟨(ah dx.out 0).trans rfl,(ah dx.out 1).trans rfl,(ah dx.out 2).trans rfl⟩ (fun hHeld=>?_)
       clear hK K
       refine rL (a':=?_) ?_ ?_
       rotate_left
       ·show Act.put _ (some 26) _=_
        simp only [Act.put,List.setIfInBounds_toArray,List.set_cons_zero,List.set_cons_succ,cU,dh]
        rfl
       refine cO (i:=2) (N:=some 27) #[true,true,true,false,false,false,false,false,false,false,false,false,false,false,false,false] rfl rfl (cW iE.out aq) (fun _ _ _ h=>h) (Or.inl ⟨by rfl,dK⟩) dL ?_
       refine cO (i:=3) (N:=some 28) #[true,true,true,true,false,false,false,false,false,false,false,false,false,false,false,false] rfl rfl (cW iE.out aq) (fun _ _ _ h=>h) (Or.inl ⟨by rfl,dK⟩) dL ?_
       refine ke (i:=4) (N:=some 29) #[true,true,true,true,true,false,false,false,false,false,false,false,false,false,false,false] rfl rfl (iO iE.out zh.out aq) (fun _ _ _ h=>h) (Or.inl ⟨by rfl,uR⟩) hHeld dL ?_
       refine zx (i:=5) (N:=some 30) #[true,true,true,true,true,true,false,false,false,false,false,false,false,false,false,false] rfl rfl (nA iE.out aq) bh (fun K hK=>?_)
       refine vV Tryz.func27 aq rfl #[.string dZ] (by rfl) rfl rfl cz ?_
       with_reducible refine (cI.calls k1 dZ false _ ?aT A17.out).mono ?_
       (case aT=>exact aJ.below HG.out kF)
       rintro e w28 ⟨rfl,hb⟩
       refine ⟨_,rfl,?_⟩
       have lJ:=aa.mk (aC sD hb)
       have lK:=aa.mk (aA kF hb)
       clear dx
       clear HB
       have dx:=lJ
       have HB:=lK
       clear lJ lK
       refine hK.out _ _ ⟨(ah dx.out 0).trans rfl,(ah dx.out 1).trans rfl,(ah dx.out 2).trans rfl⟩ (fun hHeld=>?_)
       clear hK K
       refine rL (a':=?_) ?_ ?_
       rotate_left
       ·show Act.put _ (some 30) _=_
        simp only [Act.put,List.setIfInBounds_toArray,List.set_cons_zero,List.set_cons_succ,cU,dh]
        rfl
       refine cO (i:=6) (N:=some 31) #[true,true,true,true,true,true,true,false,false,false,false,false,false,false,false,false] rfl rfl (cW iE.out aq) (fun _ _ _ h=>h) (Or.inl ⟨by rfl,dK⟩) dL ?_
       refine cO (i:=7) (N:=some 32) #[true,true,true,true,true,true,true,true,false,false,false,false,false,false,false,false] rfl rfl (cW iE.out aq) (fun _ _ _ h=>h) (Or.inl ⟨by rfl,dK⟩) dL ?_
       refine cO (i:=8) (N:=some 33) (v:=undef) (a':=?_) #[true,true,true,true,true,true,true,true,true,false,false,false,false,false,false,false] rfl rfl (cW iE.out aq) (fun _ _ _ h=>h) (Or.inr ⟨by rfl,rfl⟩) ?_ ?_
       rotate_left
       ·simp only [Act.put,List.setIfInBounds_toArray,List.set_cons_zero,List.set_cons_succ,cU,dh]
        rfl
       refine cO (i:=9) (N:=some 34) (v:=undef) (a':=?_) #[true,true,true,true,true,true,true,true,true,true,false,false,false,false,false,false] rfl rfl (cW iE.out aq) (fun _ _ _ h=>h) (Or.inr ⟨by rfl,rfl⟩) ?_ ?_
       rotate_left
       ·simp only [Act.put,List.setIfInBounds_toArray,List.set_cons_zero,List.set_cons_succ,cU,dh]
        rfl
       refine cO (i:=10) (N:=some 35) (v:=undef) (a':=?_) #[true,true,true,true,true,true,true,true,true,true,true,false,false,false,false,false] rfl rfl (cW iE.out aq) (fun _ _ _ h=>h) (Or.inr ⟨by rfl,rfl⟩) ?_ ?_
       rotate_left
       ·simp only [Act.put,List.setIfInBounds_toArray,List.set_cons_zero,List.set_cons_succ,cU,dh]
        rfl
       refine cO (i:=11) (N:=some 36) (v:=undef) (a':=?_) #[true,true,true,true,true,true,true,true,true,true,true,true,false,false,false,false] rfl rfl (cW iE.out aq) (fun _ _ _ h=>h) (Or.inr ⟨by rfl,rfl⟩) ?_ ?_
       rotate_left
       ·simp only [Act.put,List.setIfInBounds_toArray,List.set_cons_zero,List.set_cons_succ,cU,dh]
        rfl
       refine cO (i:=12) (N:=some 37) (v:=undef) (a':=?_) #[true,true,true,true,true,true,true,true,true,true,true,true,true,false,false,false] rfl rfl (cW iE.out aq) (fun _ _ _ h=>h) (Or.inr ⟨by rfl,rfl⟩) ?_ ?_
       rotate_left
       ·simp only [Act.put,List.setIfInBounds_toArray,List.set_cons_zero,List.set_cons_succ,cU,dh]
        rfl
       refine cO (i:=13) (N:=some 38) (v:=undef) (a':=?_) #[true,true,true,true,true,true,true,true,true,true,true,true,true,true,false,false] rfl rfl (cW iE.out aq) (fun _ _ _ h=>h) (Or.inr ⟨by rfl,rfl⟩) ?_ ?_
       rotate_left
       ·simp only [Act.put,List.setIfInBounds_toArray,List.set_cons_zero,List.set_cons_succ,cU,dh]
        rfl
       refine cO (i:=14) (N:=some 39) #[true,true,true,true,true,true,true,true,true,true,true,true,true,true,true,false] rfl rfl (cW iE.out aq) (fun _ _ _ h=>h) (Or.inl ⟨by rfl,dK⟩) dL ?_
       refine cO (i:=15) (N:=some 2) #[true,true,true,true,true,true,true,true,true,true,true,true,true,true,true,true] rfl rfl (cW iE.out aq) (fun _ _ _ h=>h) (Or.inl ⟨by rfl,dK⟩) dL ?_
       refine vU (qC iE.out aq) ?_
       try go_wp2
       go_ret
       exact ⟨cH,kF⟩
     ·replace c16:=Bool.eq_false_iff.mpr c16
      subst c16
      rw [if_neg (show ¬ (false=true) by decide)] at H
      obtain rfl:=Option.some.inj H
      have Ee:wr.cell? ⟨jr,0,none⟩=some (.string bS):=(ah dx.out 0).trans rfl
      have Ef:wr.cell? ⟨jr,1,none⟩=some (.string dZ):=(ah dx.out 1).trans rfl
      have Kl:wr.cell? ⟨jr,2,none⟩=some (.bool true):=(ah dx.out 2).trans rfl
      have Eg:=af dx.out 0
      have Eh:=af dx.out 1
      have Km:=af dx.out 2
      try go_wp2
      have lJ:=aa.mk (az dx.out)
      have lK:=aa.mk (bf HB.out)
      clear dx
      clear HB
      have dx:=lJ
      have HB:=lK
      clear lJ lK
      refine rE (n:=16) (S:=fun w'=>w'.cell? ⟨jr,0,none⟩=some (.string bS)∧w'.cell? ⟨jr,1,none⟩=some (.string dZ)∧w'.cell? ⟨jr,2,none⟩=some (.bool true)) (ds:=[]) #[false,false,false,false,false,false,false,false,false,false,false,false,false,false,false,false] aq (by rfl) (by rfl) ⟨(ah dx.out 0).trans rfl,(ah dx.out 1).trans rfl,(ah dx.out 2).trans rfl⟩ (fun hHeld=>?_);refine nj dN.adC dN.Wa (fun iE zh=>?_)
      generalize wr.drew=pX at dx HB hHeld ⊢
      refine ke (i:=0) (N:=some 25) #[true,false,false,false,false,false,false,false,false,false,false,false,false,false,false,false] rfl rfl (iO iE.out zh.out aq) (fun _ _ _ h=>h) (Or.inl ⟨by rfl,uR⟩) hHeld dL ?_
      refine zx (i:=1) (N:=some 26) #[true,true,false,false,false,false,false,false,false,false,false,false,false,false,false,false] rfl rfl (nA iE.out aq) bh (fun K hK=>?_)
      refine vV Tryz.func58 aq rfl #[.agg #[.string bS,.string dZ,.bool true]] (by rfl) rfl rfl cz ?_
      with_reducible refine (eD.calls k1 bS dZ true false _ ?aT VF.out).mono ?_
      (case aT=>exact aJ.below HG.out kF)
      rintro e TF ⟨rfl,hb⟩
      refine ⟨_,rfl,?_⟩
      have lJ:=aa.mk (aC sD hb)
      have lK:=aa.mk (aA kF hb)
      clear dx
      clear HB
      have dx:=lJ
      have HB:=lK
      clear lJ lK
      refine hK.out _ _ ⟨(ah dx.out 0).trans rfl,(ah dx.out 1).trans rfl,(ah dx.out 2).trans rfl⟩ (fun hHeld=>?_)
      clear hK K
      refine rL (a':=?_) ?_ ?_
      rotate_left
      ·show Act.put _ (some 26) _=_
       simp only [Act.put,List.setIfInBounds_toArray,List.set_cons_zero,List.set_cons_succ,cU,dh]
       rfl
      refine cO (i:=2) (N:=some 27) #[true,true,true,false,false,false,false,false,false,false,false,false,false,false,false,false] rfl rfl (cW iE.out aq) (fun _ _ _ h=>h) (Or.inl ⟨by rfl,dK⟩) dL ?_
      refine cO (i:=3) (N:=some 28) (v:=undef) (a':=?_) #[true,true,true,true,false,false,false,false,false,false,false,false,false,false,false,false] rfl rfl (cW iE.out aq) (fun _ _ _ h=>h) (Or.inr ⟨by rfl,rfl⟩) ?_ ?_
      rotate_left
      ·simp only [Act.put,List.setIfInBounds_toArray,List.set_cons_zero,List.set_cons_succ,cU,dh]
       rfl
      refine cO (i:=4) (N:=some 29) (v:=undef) (a':=?_) #[true,true,true,true,true,false,false,false,false,false,false,false,false,false,false,false] rfl rfl (cW iE.out aq) (fun _ _ _ h=>h) (Or.inr ⟨by rfl,rfl⟩) ?_ ?_
      rotate_left
      ·simp only [Act.put,List.setIfInBounds_toArray,List.set_cons_zero,List.set_cons_succ,cU,dh]
       rfl
      refine cO (i:=5) (N:=some 30) (v:=undef) (a':=?_) #[true,true,true,true,true,true,false,false,false,false,false,false,false,false,false,false] rfl rfl (cW iE.out aq) (fun _ _ _ h=>h) (Or.inr ⟨by rfl,rfl⟩) ?_ ?_
      rotate_left
      ·simp only [Act.put,List.setIfInBounds_toArray,List.set_cons_zero,List.set_cons_succ,cU,dh]
       rfl
      refine cO (i:=6) (N:=some 31) #[true,true,true,true,true,true,true,false,false,false,false,false,false,false,false,false] rfl rfl (cW iE.out aq) (fun _ _ _ h=>h) (Or.inl ⟨by rfl,dK⟩) dL ?_
      refine cO (i:=7) (N:=some 32) #[true,true,true,true,true,true,true,true,false,false,false,false,false,false,false,false] rfl rfl (cW iE.out aq) (fun _ _ _ h=>h) (Or.inl ⟨by rfl,dK⟩) dL ?_
      refine cO (i:=8) (N:=some 33) (v:=undef) (a':=?_) #[true,true,true,true,true,true,true,true,true,false,false,false,false,false,false,false] rfl rfl (cW iE.out aq) (fun _ _ _ h=>h) (Or.inr ⟨by rfl,rfl⟩) ?_ ?_
      rotate_left
      ·simp only [Act.put,List.setIfInBounds_toArray,List.set_cons_zero,List.set_cons_succ,cU,dh]
       rfl
      refine cO (i:=9) (N:=some 34) (v:=undef) (a':=?_) #[true,true,true,true,true,true,true,true,true,true,false,false,false,false,false,false] rfl rfl (cW iE.out aq) (fun _ _ _ h=>h) (Or.inr ⟨by rfl,rfl⟩) ?_ ?_
      rotate_left
      ·simp only [Act.put,List.setIfInBounds_toArray,List.set_cons_zero,List.set_cons_succ,cU,dh]
       rfl
      refine cO (i:=10) (N:=some 35) (v:=undef) (a':=?_) #[true,true,true,true,true,true,true,true,true,true,true,false,false,false,false,false] rfl rfl (cW iE.out aq) (fun _ _ _ h=>h) (Or.inr ⟨by rfl,rfl⟩) ?_ ?_
      rotate_left
      ·simp only [Act.put,List.setIfInBounds_toArray,List.set_cons_zero,List.set_cons_succ,cU,dh]
       rfl
      refine cO (i:=11) (N:=some 36) (v:=undef) (a':=?_) #[true,true,true,true,true,true,true,true,true,true,true,true,false,false,false,false] rfl rfl (cW iE.out aq) (fun _ _ _ h=>h) (Or.inr ⟨by rfl,rfl⟩) ?_ ?_
      rotate_left
      ·simp only [Act.put,List.setIfInBounds_toArray,List.set_cons_zero,List.set_cons_succ,cU,dh]
       rfl
      refine cO (i:=12) (N:=some 37) (v:=undef) (a':=?_) #[true,true,true,true,true,true,true,true,true,true,true,true,true,false,false,false] rfl rfl (cW iE.out aq) (fun _ _ _ h=>h) (Or.inr ⟨by rfl,rfl⟩) ?_ ?_
      rotate_left
      ·simp only [Act.put,List.setIfInBounds_toArray,List.set_cons_zero,List.set_cons_succ,cU,dh]
       rfl
      refine cO (i:=13) (N:=some 38) (v:=undef) (a':=?_) #[true,true,true,true,true,true,true,true,true,true,true,true,true,true,false,false] rfl rfl (cW iE.out aq) (fun _ _ _ h=>h) (Or.inr ⟨by rfl,rfl⟩) ?_ ?_
      rotate_left
      ·simp only [Act.put,List.setIfInBounds_toArray,List.set_cons_zero,List.set_cons_succ,cU,dh]
       rfl
      refine cO (i:=14) (N:=some 39) #[true,true,true,true,true,true,true,true,true,true,true,true,true,true,true,false] rfl rfl (cW iE.out aq) (fun _ _ _ h=>h) (Or.inl ⟨by rfl,dK⟩) dL ?_
      refine cO (i:=15) (N:=some 2) #[true,true,true,true,true,true,true,true,true,true,true,true,true,true,true,true] rfl rfl (cW iE.out aq) (fun _ _ _ h=>h) (Or.inl ⟨by rfl,dK⟩) dL ?_
      refine vU (qC iE.out aq) ?_
      try go_wp2
      go_ret
      exact ⟨cH,kF⟩
    ·replace c14:=Bool.eq_false_iff.mpr c14
     subst c14
     rw [if_neg (show ¬ (false=true) by decide)] at H
     obtain ⟨adA,A32,H⟩:=bd_ H
     by_cases UL:adA=true
     ·subst UL
      rw [if_pos rfl] at H
      obtain ⟨adB,A34,H⟩:=bd_ H
      obtain rfl:=Option.some.inj H
      have Zc:wr.cell? ⟨jr,0,none⟩=some (.string bS):=(ah dx.out 0).trans rfl
      have Zd:wr.cell? ⟨jr,1,none⟩=some (.string dZ):=(ah dx.out 1).trans rfl
      have Ze:wr.cell? ⟨jr,2,none⟩=some (.bool false):=(ah dx.out 2).trans rfl
      have Zf:=af dx.out 0
      have Zg:=af dx.out 1
      have Zh:=af dx.out 2
      go_wp2_with (first|((with_reducible refine aK (f:=58) rfl ?_);refine bU (some 41) rfl rfl Tryz.func58 aq rfl #[.agg #[.string bS,.string dZ,.bool false]] rfl cz ?_;(with_reducible refine (eD.calls k1 bS dZ false true _ ?aT A32.out).mono ?_);(case aT=>exact aJ.below HG.out kF);rintro e w36 ⟨rfl,hb⟩;refine ⟨_,rfl,?_⟩;replace dx:=aa.mk (aC sD hb);replace HB:=aa.mk (aA kF hb);(try clear hb);have alE:w36.cell? ⟨jr,0,none⟩=some (.string bS):=(ah dx.out 0).trans rfl;have alF:w36.cell? ⟨jr,1,none⟩=some (.string dZ):=(ah dx.out 1).trans rfl;have alG:w36.cell? ⟨jr,2,none⟩=some (.bool false):=(ah dx.out 2).trans rfl;have alH:=af dx.out 0;have alI:=af dx.out 1;have alJ:=af dx.out 2)|(go_at_call 65;(with_reducible refine (mE.calls k1 dZ adB _ ?aT A34.out).mono ?_);(case aT=>exact aJ.below HG.out kF);rintro e w38 ⟨rfl,hb⟩;replace dx:=aa.mk (aC sD hb);replace HB:=aa.mk (aA kF hb);(try clear hb)))
      go_ret
      exact ⟨cH,kF⟩
     ·replace UL:=Bool.eq_false_iff.mpr UL
      subst UL
      rw [if_neg (show ¬ (false=true) by decide)] at H
      obtain rfl:=Option.some.inj H
      have Rb:wr.cell? ⟨jr,0,none⟩=some (.string bS):=(ah dx.out 0).trans rfl
      have Rc:wr.cell? ⟨jr,1,none⟩=some (.string dZ):=(ah dx.out 1).trans rfl
      have alK:wr.cell? ⟨jr,2,none⟩=some (.bool false):=(ah dx.out 2).trans rfl
      have Re:=af dx.out 0
      have Rf:=af dx.out 1
      have alL:=af dx.out 2
      go_wp2_with (first|((with_reducible refine aK (f:=58) rfl ?_);refine bU (some 41) rfl rfl Tryz.func58 aq rfl #[.agg #[.string bS,.string dZ,.bool false]] rfl cz ?_;(with_reducible refine (eD.calls k1 bS dZ false false _ ?aT A32.out).mono ?_);(case aT=>exact aJ.below HG.out kF);rintro e w40 ⟨rfl,hb⟩;refine ⟨_,rfl,?_⟩;replace dx:=aa.mk (aC sD hb);replace HB:=aa.mk (aA kF hb);(try clear hb)))
      go_ret
      exact ⟨cH,kF⟩
end Go.Proofs.YtokpnfljjjjikaaGreatDoor.mY
