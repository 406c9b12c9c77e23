import Derived.Test.YtbjjaaodfbjkfaaGreatDoorQQux7
namespace Go.Proofs.YtbjjaaodfbjkfaaGreatDoor.mU
open Go.RowKit Go.Proofs.YtbjjaaodfbjkfaaGreatDoor.yN Go.Proofs.ak.bR Go.Proofs.ak.dz Go.Proofs.ak.cZ
attribute [local go_sem] iR iT jW jX gW gX jh ji
set_option linter.unusedVariables false
set_option linter.unusedSimpArgs false
def cI.l0:Nat→Int→Int→ByteArray→ByteArray→Bool→Option (Bool)
 | 0,_,_,_,_,_ =>none
 |k + 1,x6,x7,xK,uq,C9=>if x7 < x6 then (if 0≤x7 then (if x7 < (xK.size:Int) then (if (bt xK x7) < 32 then (some false) else (if (bt xK x7) > 126 then (some false) else (cI.l0 k x6 (wrap64 (x7 + 1)) xK uq C9))) else (none)) else (none)) else (if C9=true then ((gv.f k xK uq C9).bind fun t185=>(if t185=true then ((cX.f k uq).bind fun t186=>(if t186=true then ((eX.f uq).bind fun t187=>(some (t187.toList == uq.toList))) else (some false))) else (some false))) else ((gv.f k xK uq C9).bind fun t188=>(if t188=true then ((jr.f k uq).bind fun t189=>(some t189)) else (some false))))
def cI.f (k:Nat) (bg:ByteArray) (bP:ByteArray) (cE:Bool):Option (Bool):=cI.l0 k (bg.size:Int) 0 bg bP cE
theorem cI.ey:∀ k,(∀ y0 y1 y2 y3 y4,eZ (cI.l0 k y0 y1 y2 y3 y4) (cI.l0 (k + 1) y0 y1 y2 y3 y4))
 | 0=>fun _ _ _ _ _ r h=>by simp [cI.l0] at h
 |k + 1=>by
  have mH:=cI.ey k
  ·intro y0 y1 y2 y3 y4
   unfold cI.l0
   repeat' (with_reducible first|exact mH _ _ _ _ _|exact cX.mono _ _|exact jr.mono _ _|exact gv.mono _ _ _ _|exact eZ.refl _|refine eZ.ite ?_ ?_|refine eZ.bind ?_ (fun _ =>?_))
theorem cI.mono:∀ a0 a1 a2 k,eZ (cI.f k a0 a1 a2) (cI.f (k + 1) a0 a1 a2):=by
 intro a0 a1 a2 k
 have mH:=cI.ey k
 unfold cI.f
 repeat' (with_reducible exact mH _ _ _ _ _)
def cI.T8:Bool×List (List Nat×List Nat):=(true,[([],[]),([0],[0]),([1,1],[1]),([2],[2]),([3,2],[2,3]),([4,2,2],[2,4]),([2,5],[2,5]),([6,5],[6]),([7],[7]),([8,7],[7,8]),([9,7,7],[7,9]),([7],[7]),([11,7],[7,11]),([10,12,7],[7,10,12]),([7,13],[7,13]),([14,10,0,1,2,3,4,5,6,7,8,9,10,11,12,13,14],[14])])
def cI.B8:List Nat:=[0,1,3,7,15,31,63,127,255,511,1023,255,2303,8191,16383,32767]
theorem cI.acR:pZ .any (opsOf Tryz.f143 8)=cI.T8:=by kernel_rfl
theorem cI.Ud:pT cI.T8.2 cI.B8=true:=by kernel_rfl
set_option maxHeartbeats 8000000 in
set_option maxRecDepth 100000 in
theorem cI.calls (k:Nat) (bg:ByteArray) (bP:ByteArray) (cE:Bool) (r:Bool) (w:World) (hG:bq w) (h:cI.f k bg bP cE=some r):
 Calls Tryz.prog 143 #[.agg #[.string bg,.string bP,.bool cE]] w fun e w'=>e= .returned (.bool r)∧Below w.heap.size w w':=by
 have KD:=Tryz.underlying29
 have HB:=ah.mk (Below.refl w.heap.size w)
 have HG:=ah.mk hG
 clear hG
 have H:(cI.l0 k (bg.size:Int) 0 bg bP cE)=some r:=h
 clear h
 have H':=ah.mk H
 clear H
 go_enter Tryz.func143,Tryz.ntmps143
 go_wp2_with (((with_reducible refine bp (N:=1) rfl ?_);refine br ?hg (N:=1) ?hd (cs:=#[.string bg,.string bP,.bool cE]) (t:=29) ?hr ?_;(case hd=>rfl);(case hg=>rfl);(case hr=>(go_simp;done));intro iw hg w2 bG hb;have cJ:=ah.mk (bG);have aAp:=ah.mk ((bF:w.heap.size≤iw));have aAq:=ah.mk ((bF:w.heap.size≤iw));replace HB:=ah.mk (ay aJ hb);clear hb bG hg;have TN:w2.cell? ⟨iw,0,none⟩=some (.string bg):=(af cJ.out 0).trans rfl;have TP:w2.cell? ⟨iw,1,none⟩=some (.string bP):=(af cJ.out 1).trans rfl;have axS:w2.cell? ⟨iw,2,none⟩=some (.bool cE):=(af cJ.out 2).trans rfl;have TQ:=aa cJ.out 0;have TR:=aa cJ.out 1;have axT:=aa cJ.out 2))
 go_loopg [7] k (fun kq v7 w'=>∃ (qL:Int),v7= .int .i64 qL∧ah (cI.l0 kq (bg.size:Int) qL bg bP cE=some r)∧ah (kq≤k)∧ah (w'.heap[iw]? =some (.cells #[.string bg,.string bP,.bool cE] 29 (0,0)))∧ah (Below w.heap.size w w'))
 case atStart=>exact ⟨(0),(by rfl),H',⟨Nat.le_refl _⟩,⟨oC⟩,⟨aJ⟩⟩
 case round=>
  clear H'
  obtain ⟨qL,rfl,HA,qi,cJ,HB⟩:=hrel
  cases gk with
  |zero=>exact absurd HA.out (by simp [cI.l0])
  |succ k1=>
   have H:=HA.out
   clear HA
   simp only [cI.l0] at H
   by_cases c4:qL < (bg.size:Int)
   ·rw [if_pos c4] at H
    have mQ:=decide_eq_true c4
    clear c4
    obtain ⟨c5,H⟩:=lO H
    have p8:=decide_eq_true c5
    clear c5
    obtain ⟨c6,H⟩:=lO H
    have zH:=decide_eq_true c6
    clear c6
    by_cases c8:(bt bg qL) < 32
    ·rw [if_pos c8] at H
     have Ax:=decide_eq_true c8
     clear c8
     obtain rfl:=Option.some.inj H
     have Ay:wr.cell? ⟨iw,0,none⟩=some (.string bg):=(af cJ.out 0).trans rfl
     have Az:wr.cell? ⟨iw,1,none⟩=some (.string bP):=(af cJ.out 1).trans rfl
     have Ue:wr.cell? ⟨iw,2,none⟩=some (.bool cE):=(af cJ.out 2).trans rfl
     have AA:=aa cJ.out 0
     have AB:=aa cJ.out 1
     have Uf:=aa cJ.out 2
     have p7: 0≤(qL:Int):=of_decide_eq_true cj
     have q7:qL < (bg.size:Int):=of_decide_eq_true cj
     have SC:=vD bg qL
     replace p7:=eq_true p7
     replace q7:=eq_true q7
     go_wp2
     go_ret
     exact ⟨by rfl,aJ⟩
    ·rw [if_neg c8] at H
     have Ax:=decide_eq_false c8
     clear c8
     by_cases c11:(bt bg qL) > 126
     ·rw [if_pos c11] at H
      have zI:decide (126 < (bt bg qL))=true:=decide_eq_true c11
      clear c11
      obtain rfl:=Option.some.inj H
      have xu:wr.cell? ⟨iw,0,none⟩=some (.string bg):=(af cJ.out 0).trans rfl
      have xw:wr.cell? ⟨iw,1,none⟩=some (.string bP):=(af cJ.out 1).trans rfl
      have zu:wr.cell? ⟨iw,2,none⟩=some (.bool cE):=(af cJ.out 2).trans rfl
      have xx:=aa cJ.out 0
      have xy:=aa cJ.out 1
      have zw:=aa cJ.out 2
      have p7: 0≤(qL:Int):=of_decide_eq_true cj
      have q7:qL < (bg.size:Int):=of_decide_eq_true cj
      have SC:=vD bg qL
      replace p7:=eq_true p7
      replace q7:=eq_true q7
      have p10: 0≤(qL:Int):=of_decide_eq_true cj
      have q10:qL < (bg.size:Int):=of_decide_eq_true cj
      have Rx:=vD bg qL
      replace p10:=eq_true p10
      replace q10:=eq_true q10
      go_wp2
      go_ret
      exact ⟨by rfl,aJ⟩
     ·rw [if_neg c11] at H
      have zI:decide (126 < (bt bg qL))=false:=decide_eq_false c11
      clear c11
      have H':=ah.mk H
      clear H
      have VY:wr.cell? ⟨iw,0,none⟩=some (.string bg):=(af cJ.out 0).trans rfl
      have VZ:wr.cell? ⟨iw,1,none⟩=some (.string bP):=(af cJ.out 1).trans rfl
      have alS:wr.cell? ⟨iw,2,none⟩=some (.bool cE):=(af cJ.out 2).trans rfl
      have V2:=aa cJ.out 0
      have V3:=aa cJ.out 1
      have alT:=aa cJ.out 2
      have p7: 0≤(qL:Int):=of_decide_eq_true cj
      have q7:qL < (bg.size:Int):=of_decide_eq_true cj
      have SC:=vD bg qL
      replace p7:=eq_true p7
      replace q7:=eq_true q7
      have p10: 0≤(qL:Int):=of_decide_eq_true cj
      have q10:qL < (bg.size:Int):=of_decide_eq_true cj
      have Rx:=vD bg qL
      replace p10:=eq_true p10
      replace q10:=eq_true q10
      go_wp2
      go_roundg k1
      case measure=>have:=qi.out;omega
      case rel=>exact ⟨(wrap64 (qL + 1)),(by rfl),H',⟨lu⟩,⟨oC⟩,⟨aJ⟩⟩
   ·rw [if_neg c4] at H
    have mQ:=decide_eq_false c4
    clear c4
    by_cases c14:cE=true
    ·subst c14
     rw [if_pos rfl] at H
     obtain ⟨t185,A15,H⟩:=bd_ H
     by_cases c16:t185=true
     ·subst c16
      rw [if_pos rfl] at H
      obtain ⟨t186,Ry,H⟩:=bd_ H
      by_cases c18:t186=true
      ·subst c18
       rw [if_pos rfl] at H
       obtain ⟨t187,A19,H⟩:=bd_ H
       obtain rfl:=Option.some.inj H
       have Da:wr.cell? ⟨iw,0,none⟩=some (.string bg):=(af cJ.out 0).trans rfl
       have Db:wr.cell? ⟨iw,1,none⟩=some (.string bP):=(af cJ.out 1).trans rfl
       have Dc:wr.cell? ⟨iw,2,none⟩=some (.bool true):=(af cJ.out 2).trans rfl
       have Dd:=aa cJ.out 0
       have De:=aa cJ.out 1
       have Df:=aa cJ.out 2
       try go_wp2
       have kj:=ah.mk (iA cJ.out)
       have ko:=ah.mk (fS HB.out)
       clear cJ
       clear HB
       have cJ:=kj
       have HB:=ko
       clear kj ko
       refine kS (n:=16) (S:=fun w'=>w'.cell? ⟨iw,0,none⟩=some (.string bg)∧w'.cell? ⟨iw,1,none⟩=some (.string bP)∧w'.cell? ⟨iw,2,none⟩=some (.bool true)) (ds:=[]) #[false,false,false,false,false,false,false,false,false,false,false,false,false,false,false,false] aq (by rfl) (by rfl) ⟨(af cJ.out 0).trans rfl,(af cJ.out 1).trans rfl,(af cJ.out 2).trans rfl⟩ (fun hHeld=>?_);refine kL cI.acR cI.Ud (fun dh rq=>?_)
       generalize wr.drew=Rz at cJ HB hHeld ⊢
       refine fL (i:=0) (N:=some 25) #[true,false,false,false,false,false,false,false,false,false,false,false,false,false,false,false] rfl rfl (eV dh.out rq.out aq) (fun _ _ _ h=>h) (Or.inl ⟨by rfl,yE⟩) hHeld rfl ?_
       refine nP (i:=1) (N:=some 26) #[true,true,false,false,false,false,false,false,false,false,false,false,false,false,false,false] rfl rfl (jU dh.out aq) bC (fun K hK=>?_)
       refine lF Tryz.func186 aq rfl #[.agg #[.string bg,.string bP,.bool true]] (by rfl) rfl rfl dK ?_
       with_reducible refine (gv.calls k1 bg bP true true _ ?bn A15.out).mono ?_
       (case bn=>exact bq.below HG.out aJ)
       rintro e Vs ⟨rfl,hb⟩
       refine ⟨_,rfl,?_⟩
       have kj:=ah.mk (aA oC hb)
       have ko:=ah.mk (ay aJ hb)
       clear cJ
       clear HB
       have cJ:=kj
       have HB:=ko
       clear kj ko
       refine hK.out _ _ ⟨(af cJ.out 0).trans rfl,(af cJ.out 1).trans rfl,(af cJ.out 2).trans rfl⟩ (fun hHeld=>?_)
       clear hK K
       refine ku (a':=?_) ?_ ?_
       rotate_left
       ·show Act.put _ (some 26) _=_
        simp only [Act.put,List.setIfInBounds_toArray,List.set_cons_zero,List.set_cons_succ,aV,aW]
        rfl
       refine aN (i:=2) (N:=some 27) #[true,true,true,false,false,false,false,false,false,false,false,false,false,false,false,false] rfl rfl (bf dh.out aq) (fun _ _ _ h=>h) (Or.inl ⟨by rfl,cD⟩) rfl ?_
       refine aN (i:=3) (N:=some 28) #[true,true,true,true,false,false,false,false,false,false,false,false,false,false,false,false] rfl rfl (bf dh.out aq) (fun _ _ _ h=>h) (Or.inl ⟨by rfl,cD⟩) rfl ?_
       refine fL (i:=4) (N:=some 29) #[true,true,true,true,true,false,false,false,false,false,false,false,false,false,false,false] rfl rfl (eV dh.out rq.out aq) (fun _ _ _ h=>h) (Or.inl ⟨by rfl,yE⟩) hHeld rfl ?_
       refine nP (i:=5) (N:=some 30) #[true,true,true,true,true,true,false,false,false,false,false,false,false,false,false,false] rfl rfl (jU dh.out aq) bC (fun K hK=>?_)
       refine lF Tryz.func187 aq rfl #[.string bP] (by rfl) rfl rfl dK ?_
       with_reducible refine (cX.calls k1 bP true _ ?bn Ry.out).mono ?_
       (case bn=>exact bq.below HG.out aJ)
       rintro e sP ⟨rfl,hb⟩
       refine ⟨_,rfl,?_⟩
       have kj:=ah.mk (aA oC hb)
       have ko:=ah.mk (ay aJ hb)
       clear cJ
       clear HB
       have cJ:=kj
       have HB:=ko
       clear kj ko
       refine hK.out _ _ ⟨(af cJ.out 0).trans rfl,(af cJ.out 1).trans rfl,(af cJ.out 2).trans rfl⟩ (fun hHeld=>?_)
       clear hK K
       refine ku (a':=?_) ?_ ?_
       rotate_left
       ·show Act.put _ (some 30) _=_
        simp only [Act.put,List.setIfInBounds_toArray,List.set_cons_zero,List.set_cons_succ,aV,aW]
        rfl
       refine aN (i:=6) (N:=some 31) #[true,true,true,true,true,true,true,false,false,false,false,false,false,false,false,false] rfl rfl (bf dh.out aq) (fun _ _ _ h=>h) (Or.inl ⟨by rfl,cD⟩) rfl ?_
       refine aN (i:=7) (N:=some 32) #[true,true,true,true,true,true,true,true,false,false,false,false,false,false,false,false] rfl rfl (bf dh.out aq) (fun _ _ _ h=>h) (Or.inl ⟨by rfl,cD⟩) rfl ?_
       refine aN (i:=8) (N:=some 33) #[true,true,true,true,true,true,true,true,true,false,false,false,false,false,false,false] rfl rfl (bf dh.out aq) (fun _ _ _ h=>h) (Or.inl ⟨by rfl,cD⟩) rfl ?_
       refine aN (i:=11) (N:=some 36) #[true,true,true,true,true,true,true,true,true,false,false,true,false,false,false,false] rfl rfl (bf dh.out aq) (fun _ _ _ h=>h) (Or.inl ⟨by rfl,cD⟩) rfl ?_
       refine fL (i:=9) (N:=some 34) #[true,true,true,true,true,true,true,true,true,true,false,true,false,false,false,false] rfl rfl (eV dh.out rq.out aq) (fun _ _ _ h=>h) (Or.inl ⟨by rfl,yE⟩) hHeld rfl ?_
       refine fL (i:=12) (N:=some 37) #[true,true,true,true,true,true,true,true,true,true,false,true,true,false,false,false] rfl rfl (eV dh.out rq.out aq) (fun _ _ _ h=>h) (Or.inl ⟨by rfl,yE⟩) hHeld rfl ?_
       refine nP (i:=10) (N:=some 35) #[true,true,true,true,true,true,true,true,true,true,true,true,true,false,false,false] rfl rfl (jU dh.out aq) bC (fun K hK=>?_)
       refine lF Tryz.func139 aq rfl #[.string bP] (by rfl) rfl rfl dK ?_
       with_reducible refine (eX.calls bP t187 _ A19.out).mono ?_
       rintro e yP ⟨rfl,hb⟩
       refine ⟨_,rfl,?_⟩
       have kj:=ah.mk (aA oC hb)
       have ko:=ah.mk (ay aJ hb)
       clear cJ
       clear HB
       have cJ:=kj
       have HB:=ko
       clear kj ko
       refine hK.out _ _ ⟨(af cJ.out 0).trans rfl,(af cJ.out 1).trans rfl,(af cJ.out 2).trans rfl⟩ (fun hHeld=>?_)
       clear hK K
       refine ku (a':=?_) ?_ ?_
       rotate_left
       ·show Act.put _ (some 35) _=_
        simp only [Act.put,List.setIfInBounds_toArray,List.set_cons_zero,List.set_cons_succ,aV,aW]
        rfl
       refine aN (i:=13) (N:=some 38) #[true,true,true,true,true,true,true,true,true,true,true,true,true,true,false,false] rfl rfl (bf dh.out aq) (fun _ _ _ h=>h) (Or.inl ⟨by rfl,cD⟩) rfl ?_
       refine aN (i:=14) (N:=some 39) #[true,true,true,true,true,true,true,true,true,true,true,true,true,true,true,false] rfl rfl (bf dh.out aq) (fun _ _ _ h=>h) (Or.inl ⟨by rfl,cD⟩) rfl ?_
       refine aN (i:=15) (N:=some 2) #[true,true,true,true,true,true,true,true,true,true,true,true,true,true,true,true] rfl rfl (bf dh.out aq) (fun _ _ _ h=>h) (Or.inl ⟨by rfl,cD⟩) rfl ?_
       refine nv (nJ dh.out aq) ?_
       try go_wp2
       go_ret
       exact ⟨by rfl,aJ⟩
      ·replace c18:=Bool.eq_false_iff.mpr c18
       subst c18
       rw [if_neg (show ¬ (false=true) by decide)] at H
       obtain rfl:=Option.some.inj H
       have Dg:wr.cell? ⟨iw,0,none⟩=some (.string bg):=(af cJ.out 0).trans rfl
       have Dh:wr.cell? ⟨iw,1,none⟩=some (.string bP):=(af cJ.out 1).trans rfl
       have Di:wr.cell? ⟨iw,2,none⟩=some (.bool true):=(af cJ.out 2).trans rfl
       have Dj:=aa cJ.out 0
       have Dk:=aa cJ.out 1
       have Dl:=aa cJ.out 2
       try go_wp2
       have kj:=ah.mk (iA cJ.out)
       have ko:=ah.mk (fS HB.out)
       clear cJ
       clear HB
       have cJ:=kj
       have HB:=ko
       clear kj ko
       refine kS (n:=16) (S:=fun w'=>w'.cell? ⟨iw,0,none⟩=some (.string bg)∧w'.cell? ⟨iw,1,none⟩=some (.string bP)∧w'.cell? ⟨iw,2,none⟩=some (.bool true)) (ds:=[]) #[false,false,false,false,false,false,false,false,false,false,false,false,false,false,false,false] aq (by rfl) (by rfl) ⟨(af cJ.out 0).trans rfl,(af cJ.out 1).trans rfl,(af cJ.out 2).trans rfl⟩ (fun hHeld=>?_);refine kL cI.acR cI.Ud (fun dh rq=>?_)
       generalize wr.drew=LU at cJ HB hHeld ⊢
       refine fL (i:=0) (N:=some 25) #[true,false,false,false,false,false,false,false,false,false,false,false,false,false,false,false] rfl rfl (eV dh.out rq.out aq) (fun _ _ _ h=>h) (Or.inl ⟨by rfl,yE⟩) hHeld rfl ?_
       refine nP (i:=1) (N:=some 26) #[true,true,false,false,false,false,false,false,false,false,false,false,false,false,false,false] rfl rfl (jU dh.out aq) bC (fun K hK=>?_)
       refine lF Tryz.func186 aq rfl #[.agg #[.string bg,.string bP,.bool true]] (by rfl) rfl rfl dK ?_
       with_reducible refine (gv.calls k1 bg bP true true _ ?bn A15.out).mono ?_
       (case bn=>exact bq.below HG.out aJ)
       rintro e RA ⟨rfl,hb⟩
       refine ⟨_,rfl,?_⟩
       have kj:=ah.mk (aA oC hb)
       have ko:=ah.mk (ay aJ hb)
       clear cJ
       clear HB
       have cJ:=kj
       have HB:=ko
       clear kj ko
       refine hK.out _ _ ⟨(af cJ.out 0).trans rfl,(af cJ.out 1).trans rfl,(af cJ.out 2).trans rfl⟩ (fun hHeld=>?_)
       clear hK K
       refine ku (a':=?_) ?_ ?_
       rotate_left
       ·show Act.put _ (some 26) _=_
        simp only [Act.put,List.setIfInBounds_toArray,List.set_cons_zero,List.set_cons_succ,aV,aW]
        rfl
       refine aN (i:=2) (N:=some 27) #[true,true,true,false,false,false,false,false,false,false,false,false,false,false,false,false] rfl rfl (bf dh.out aq) (fun _ _ _ h=>h) (Or.inl ⟨by rfl,cD⟩) rfl ?_
       refine aN (i:=3) (N:=some 28) #[true,true,true,true,false,false,false,false,false,false,false,false,false,false,false,false] rfl rfl (bf dh.out aq) (fun _ _ _ h=>h) (Or.inl ⟨by rfl,cD⟩) rfl ?_
       refine fL (i:=4) (N:=some 29) #[true,true,true,true,true,false,false,false,false,false,false,false,false,false,false,false] rfl rfl (eV dh.out rq.out aq) (fun _ _ _ h=>h) (Or.inl ⟨by rfl,yE⟩) hHeld rfl ?_
       refine nP (i:=5) (N:=some 30) #[true,true,true,true,true,true,false,false,false,false,false,false,false,false,false,false] rfl rfl (jU dh.out aq) bC (fun K hK=>?_)
       refine lF Tryz.func187 aq rfl #[.string bP] (by rfl) rfl rfl dK ?_
       with_reducible refine (cX.calls k1 bP false _ ?bn Ry.out).mono ?_
       (case bn=>exact bq.below HG.out aJ)
       rintro e AG ⟨rfl,hb⟩
       refine ⟨_,rfl,?_⟩
       have kj:=ah.mk (aA oC hb)
       have ko:=ah.mk (ay aJ hb)
       clear cJ
       clear HB
       have cJ:=kj
       have HB:=ko
       clear kj ko
       refine hK.out _ _ ⟨(af cJ.out 0).trans rfl,(af cJ.out 1).trans rfl,(af cJ.out 2).trans rfl⟩ (fun hHeld=>?_)
       clear hK K
       refine ku (a':=?_) ?_ ?_
       rotate_left
       ·show Act.put _ (some 30) _=_
        simp only [Act.put,List.setIfInBounds_toArray,List.set_cons_zero,List.set_cons_succ,aV,aW]
        rfl
       refine aN (i:=6) (N:=some 31) #[true,true,true,true,true,true,true,false,false,false,false,false,false,false,false,false] rfl rfl (bf dh.out aq) (fun _ _ _ h=>h) (Or.inl ⟨by rfl,cD⟩) rfl ?_
       refine aN (i:=7) (N:=some 32) #[true,true,true,true,true,true,true,true,false,false,false,false,false,false,false,false] rfl rfl (bf dh.out aq) (fun _ _ _ h=>h) (Or.inl ⟨by rfl,cD⟩) rfl ?_
       refine aN (i:=8) (N:=some 33) (v:=undef) (a':=?_) #[true,true,true,true,true,true,true,true,true,false,false,false,false,false,false,false] rfl rfl (bf dh.out aq) (fun _ _ _ h=>h) (Or.inr ⟨by rfl,rfl⟩) ?_ ?_
       rotate_left
       ·simp only [Act.put,List.setIfInBounds_toArray,List.set_cons_zero,List.set_cons_succ,aV,aW]
        rfl
       refine aN (i:=9) (N:=some 34) (v:=undef) (a':=?_) #[true,true,true,true,true,true,true,true,true,true,false,false,false,false,false,false] rfl rfl (bf dh.out aq) (fun _ _ _ h=>h) (Or.inr ⟨by rfl,rfl⟩) ?_ ?_
       rotate_left
       ·simp only [Act.put,List.setIfInBounds_toArray,List.set_cons_zero,List.set_cons_succ,aV,aW]
        rfl
       refine aN (i:=10) (N:=some 35) (v:=undef) (a':=?_) #[true,true,true,true,true,true,true,true,true,true,true,false,false,false,false,false] rfl rfl (bf dh.out aq) (fun _ _ _ h=>h) (Or.inr ⟨by rfl,rfl⟩) ?_ ?_
       rotate_left
       ·simp only [Act.put,List.setIfInBounds_toArray,List.set_cons_zero,List.set_cons_succ,aV,aW]
        rfl
       refine aN (i:=11) (N:=some 36) (v:=undef) (a':=?_) #[true,true,true,true,true,true,true,true,true,true,true,true,false,false,false,false] rfl rfl (bf dh.out aq) (fun _ _ _ h=>h) (Or.inr ⟨by rfl,rfl⟩) ?_ ?_
       rotate_left
       ·simp only [Act.put,List.setIfInBounds_toArray,List.set_cons_zero,List.set_cons_succ,aV,aW]
        rfl
       refine aN (i:=12) (N:=some 37) (v:=undef) (a':=?_) #[true,true,true,true,true,true,true,true,true,true,true,true,true,false,false,false] rfl rfl (bf dh.out aq) (fun _ _ _ h=>h) (Or.inr ⟨by rfl,rfl⟩) ?_ ?_
       rotate_left
       ·simp only [Act.put,List.setIfInBounds_toArray,List.set_cons_zero,List.set_cons_succ,aV,aW]
        rfl
       refine aN (i:=13) (N:=some 38) (v:=undef) (a':=?_) #[true,true,true,true,true,true,true,true,true,true,true,true,true,true,false,false] rfl rfl (bf dh.out aq) (fun _ _ _ h=>h) (Or.inr ⟨by rfl,rfl⟩) ?_ ?_
       rotate_left
       ·simp only [Act.put,List.setIfInBounds_toArray,List.set_cons_zero,List.set_cons_succ,aV,aW]
        rfl
       refine aN (i:=14) (N:=some 39) #[true,true,true,true,true,true,true,true,true,true,true,true,true,true,true,false] rfl rfl (bf dh.out aq) (fun _ _ _ h=>h) (Or.inl ⟨by rfl,cD⟩) rfl ?_
       refine aN (i:=15) (N:=some 2) #[true,true,true,true,true,true,true,true,true,true,true,true,true,true,true,true] rfl rfl (bf dh.out aq) (fun _ _ _ h=>h) (Or.inl ⟨by rfl,cD⟩) rfl ?_
       refine nv (nJ dh.out aq) ?_
       try go_wp2
       go_ret
       exact ⟨by rfl,aJ⟩
     ·replace c16:=Bool.eq_false_iff.mpr c16
      subst c16
      rw [if_neg (show ¬ (false=true) by decide)] at H
      obtain rfl:=Option.some.inj H
      have Wl:wr.cell? ⟨iw,0,none⟩=some (.string bg):=(af cJ.out 0).trans rfl
      have Wm:wr.cell? ⟨iw,1,none⟩=some (.string bP):=(af cJ.out 1).trans rfl
      have Wn:wr.cell? ⟨iw,2,none⟩=some (.bool true):=(af cJ.out 2).trans rfl
      have Wo:=aa cJ.out 0
      have Wp:=aa cJ.out 1
      have Wq:=aa cJ.out 2
      try go_wp2
      have kj:=ah.mk (iA cJ.out)
      have ko:=ah.mk (fS HB.out)
      clear cJ
      clear HB
      have cJ:=kj
      have HB:=ko
      clear kj ko
      refine kS (n:=16) (S:=fun w'=>w'.cell? ⟨iw,0,none⟩=some (.string bg)∧w'.cell? ⟨iw,1,none⟩=some (.string bP)∧w'.cell? ⟨iw,2,none⟩=some (.bool true)) (ds:=[]) #[false,false,false,false,false,false,false,false,false,false,false,false,false,false,false,false] aq (by rfl) (by rfl) ⟨(af cJ.out 0).trans rfl,(af cJ.out 1).trans rfl,(af cJ.out 2).trans rfl⟩ (fun hHeld=>?_);refine kL cI.acR cI.Ud (fun dh rq=>?_)
      generalize wr.drew=w30 at cJ HB hHeld ⊢
      refine fL (i:=0) (N:=some 25) #[true,false,false,false,false,false,false,false,false,false,false,false,false,false,false,false] rfl rfl (eV dh.out rq.out aq) (fun _ _ _ h=>h) (Or.inl ⟨by rfl,yE⟩) hHeld rfl ?_
      refine nP (i:=1) (N:=some 26) #[true,true,false,false,false,false,false,false,false,false,false,false,false,false,false,false] rfl rfl (jU dh.out aq) bC (fun K hK=>?_)
      refine lF Tryz.func186 aq rfl #[.agg #[.string bg,.string bP,.bool true]] (by rfl) rfl rfl dK ?_
      with_reducible refine (gv.calls k1 bg bP true false _ ?bn A15.out).mono ?_
      (case bn=>exact bq.below HG.out aJ)
      rintro e w31 ⟨rfl,hb⟩
      refine ⟨_,rfl,?_⟩
      have kj:=ah.mk (aA oC hb)
      have ko:=ah.mk (ay aJ hb)
      clear cJ
      clear HB
      have cJ:=kj
      have HB:=ko
      clear kj ko
      refine hK.out _ _ ⟨(af cJ.out 0).trans rfl,(af cJ.out 1).trans rfl,(af cJ.out 2).trans rfl⟩ (fun hHeld=>?_)
      clear hK K
      refine ku (a':=?_) ?_ ?_
      rotate_left
      ·show Act.put _ (some 26) _=_
       simp only [Act.put,List.setIfInBounds_toArray,List.set_cons_zero,List.set_cons_succ,aV,aW]
       rfl
      refine aN (i:=2) (N:=some 27) #[true,true,true,false,false,false,false,false,false,false,false,false,false,false,false,false] rfl rfl (bf dh.out aq) (fun _ _ _ h=>h) (Or.inl ⟨by rfl,cD⟩) rfl ?_
      refine aN (i:=3) (N:=some 28) (v:=undef) (a':=?_) #[true,true,true,true,false,false,false,false,false,false,false,false,false,false,false,false] rfl rfl (bf dh.out aq) (fun _ _ _ h=>h) (Or.inr ⟨by rfl,rfl⟩) ?_ ?_
      rotate_left
      ·simp only [Act.put,List.setIfInBounds_toArray,List.set_cons_zero,List.set_cons_succ,aV,aW]
       rfl
      refine aN (i:=4) (N:=some 29) (v:=undef) (a':=?_) #[true,true,true,true,true,false,false,false,false,false,false,false,false,false,false,false] rfl rfl (bf dh.out aq) (fun _ _ _ h=>h) (Or.inr ⟨by rfl,rfl⟩) ?_ ?_
      rotate_left
      ·simp only [Act.put,List.setIfInBounds_toArray,List.set_cons_zero,List.set_cons_succ,aV,aW]
       rfl
      refine aN (i:=5) (N:=some 30) (v:=undef) (a':=?_) #[true,true,true,true,true,true,false,false,false,false,false,false,false,false,false,false] rfl rfl (bf dh.out aq) (fun _ _ _ h=>h) (Or.inr ⟨by rfl,rfl⟩) ?_ ?_
      rotate_left
      ·simp only [Act.put,List.setIfInBounds_toArray,List.set_cons_zero,List.set_cons_succ,aV,aW]
       rfl
      refine aN (i:=6) (N:=some 31) #[true,true,true,true,true,true,true,false,false,false,false,false,false,false,false,false] rfl rfl (bf dh.out aq) (fun _ _ _ h=>h) (Or.inl ⟨by rfl,cD⟩) rfl ?_
      refine aN (i:=7) (N:=some 32) #[true,true,true,true,true,true,true,true,false,false,false,false,false,false,false,false] rfl rfl (bf dh.out aq) (fun _ _ _ h=>h) (Or.inl ⟨by rfl,cD⟩) rfl ?_
      refine aN (i:=8) (N:=some 33) (v:=undef) (a':=?_) #[true,true,true,true,true,true,true,true,true,false,false,false,false,false,false,false] rfl rfl (bf dh.out aq) (fun _ _ _ h=>h) (Or.inr ⟨by rfl,rfl⟩) ?_ ?_
      rotate_left
      ·simp only [Act.put,List.setIfInBounds_toArray,List.set_cons_zero,List.set_cons_succ,aV,aW]
       rfl
      refine aN (i:=9) (N:=some 34) (v:=undef) (a':=?_) #[true,true,true,true,true,true,true,true,true,true,false,false,false,false,false,false] rfl rfl (bf dh.out aq) (fun _ _ _ h=>h) (Or.inr ⟨by rfl,rfl⟩) ?_ ?_
      rotate_left
      ·simp only [Act.put,List.setIfInBounds_toArray,List.set_cons_zero,List.set_cons_succ,aV,aW]
       rfl
      refine aN (i:=10) (N:=some 35) (v:=undef) (a':=?_) #[true,true,true,true,true,true,true,true,true,true,true,false,false,false,false,false] rfl rfl (bf dh.out aq) (fun _ _ _ h=>h) (Or.inr ⟨by rfl,rfl⟩) ?_ ?_
      rotate_left
      ·simp only [Act.put,List.setIfInBounds_toArray,List.set_cons_zero,List.set_cons_succ,aV,aW]
       rfl
      refine aN (i:=11) (N:=some 36) (v:=undef) (a':=?_) #[true,true,true,true,true,true,true,true,true,true,true,true,false,false,false,false] rfl rfl (bf dh.out aq) (fun _ _ _ h=>h) (Or.inr ⟨by rfl,rfl⟩) ?_ ?_
      rotate_left
      ·simp only [Act.put,List.setIfInBounds_toArray,List.set_cons_zero,List.set_cons_succ,aV,aW]
       rfl
      refine aN (i:=12) (N:=some 37) (v:=undef) (a':=?_) #[true,true,true,true,true,true,true,true,true,true,true,true,true,false,false,false] rfl rfl (bf dh.out aq) (fun _ _ _ h=>h) (Or.inr ⟨by rfl,rfl⟩) ?_ ?_
      rotate_left
      ·simp only [Act.put,List.setIfInBounds_toArray,List.set_cons_zero,List.set_cons_succ,aV,aW]
       rfl
      refine aN (i:=13) (N:=some 38) (v:=undef) (a':=?_) #[true,true,true,true,true,true,true,true,true,true,true,true,true,true,false,false] rfl rfl (bf dh.out aq) (fun _ _ _ h=>h) (Or.inr ⟨by rfl,rfl⟩) ?_ ?_
      rotate_left
      ·simp only [Act.put,List.setIfInBounds_toArray,List.set_cons_zero,List.set_cons_succ,aV,aW]
       rfl
      refine aN (i:=14) (N:=some 39) #[true,true,true,true,true,true,true,true,true,true,true,true,true,true,true,false] rfl rfl (bf dh.out aq) (fun _ _ _ h=>h) (Or.inl ⟨by rfl,cD⟩) rfl ?_
      refine aN (i:=15) (N:=some 2) #[true,true,true,true,true,true,true,true,true,true,true,true,true,true,true,true] rfl rfl (bf dh.out aq) (fun _ _ _ h=>h) (Or.inl ⟨by rfl,cD⟩) rfl ?_
      refine nv (nJ dh.out aq) ?_
      try go_wp2
      go_ret
      exact ⟨by rfl,aJ⟩
    ·replace c14:=Bool.eq_false_iff.mpr c14
     subst c14
     rw [if_neg (show ¬ (false=true) by decide)] at H
     obtain ⟨t188,A32,H⟩:=bd_ H
     by_cases c33:t188=true
     ·subst c33
      rw [if_pos rfl] at H
      obtain ⟨t189,A34,H⟩:=bd_ H
      obtain rfl:=Option.some.inj H
      have Ws:wr.cell? ⟨iw,0,none⟩=some (.string bg):=(af cJ.out 0).trans rfl
      have Wt:wr.cell? ⟨iw,1,none⟩=some (.string bP):=(af cJ.out 1).trans rfl
      have Wu:wr.cell? ⟨iw,2,none⟩=some (.bool false):=(af cJ.out 2).trans rfl
      have Wv:=aa cJ.out 0
      have Ww:=aa cJ.out 1
      have Wx:=aa cJ.out 2
      go_wp2_with (first|((with_reducible refine bK (f:=186) rfl ?_);refine dB (some 41) rfl rfl Tryz.func186 aq rfl #[.agg #[.string bg,.string bP,.bool false]] rfl dK ?_;(with_reducible refine (gv.calls k1 bg bP false true _ ?bn A32.out).mono ?_);(case bn=>exact bq.below HG.out aJ);rintro e w36 ⟨rfl,hb⟩;refine ⟨_,rfl,?_⟩;replace cJ:=ah.mk (aA oC hb);replace HB:=ah.mk (ay aJ hb);(try clear hb);have Hh:w36.cell? ⟨iw,0,none⟩=some (.string bg):=(af cJ.out 0).trans rfl;have Hi:w36.cell? ⟨iw,1,none⟩=some (.string bP):=(af cJ.out 1).trans rfl;have Hj:w36.cell? ⟨iw,2,none⟩=some (.bool false):=(af cJ.out 2).trans rfl;have Hl:=aa cJ.out 0;have Ho:=aa cJ.out 1;have Hp:=aa cJ.out 2)|(go_at_call 145;(with_reducible refine (jr.calls k1 bP t189 _ ?bn A34.out).mono ?_);(case bn=>exact bq.below HG.out aJ);rintro e sQ ⟨rfl,hb⟩;replace cJ:=ah.mk (aA oC hb);replace HB:=ah.mk (ay aJ hb);(try clear hb)))
      go_ret
      exact ⟨by rfl,aJ⟩
     ·replace c33:=Bool.eq_false_iff.mpr c33
      subst c33
      rw [if_neg (show ¬ (false=true) by decide)] at H
      obtain rfl:=Option.some.inj H
      have Ow:wr.cell? ⟨iw,0,none⟩=some (.string bg):=(af cJ.out 0).trans rfl
      have Ox:wr.cell? ⟨iw,1,none⟩=some (.string bP):=(af cJ.out 1).trans rfl
      have Oy:wr.cell? ⟨iw,2,none⟩=some (.bool false):=(af cJ.out 2).trans rfl
      have Oz:=aa cJ.out 0
      have OA:=aa cJ.out 1
      have OB:=aa cJ.out 2
      go_wp2_with (((with_reducible refine bK (f:=186) rfl ?_);refine dB (some 41) rfl rfl Tryz.func186 aq rfl #[.agg #[.string bg,.string bP,.bool false]] rfl dK ?_;(with_reducible refine (gv.calls k1 bg bP false false _ ?bn A32.out).mono ?_);(case bn=>exact bq.below HG.out aJ);rintro e w40 ⟨rfl,hb⟩;refine ⟨_,rfl,?_⟩;replace cJ:=ah.mk (aA oC hb);replace HB:=ah.mk (ay aJ hb);(try clear hb)))
      go_ret
      exact ⟨by rfl,aJ⟩
end Go.Proofs.YtbjjaaodfbjkfaaGreatDoor.mU
