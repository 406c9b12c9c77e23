import Derived.Test.YtbjjaaodfbjkfaaGreatDoorQQux7
namespace Go.Proofs.YtbjjaaodfbjkfaaGreatDoor.mN
open Go.RowKit Go.Proofs.YtbjjaaodfbjkfaaGreatDoor.xV Go.Proofs.ak.bQ Go.Proofs.ak.dA Go.Proofs.ak.cX
attribute [local go_sem] jc jd j4 j5 gU gV je jf
set_option linter.unusedVariables false
set_option linter.unusedSimpArgs false
def cI.l0:Nat→Int→Int→ByteArray→ByteArray→Bool→Option (Bool)
 | 0,_,_,_,_,_ =>none
 |k + 1,x6,x7,wV,um,Cy=>if x7 < x6 then (if 0≤x7 then (if x7 < (wV.size:Int) then (if (bt wV x7) < 32 then (some false) else (if (bt wV x7) > 126 then (some false) else (cI.l0 k x6 (wrap64 (x7 + 1)) wV um Cy))) else (none)) else (none)) else (if Cy=true then ((gz.f k wV um Cy).bind fun t185=>(if t185=true then ((cV.f k um).bind fun t186=>(if t186=true then ((eW.f um).bind fun t187=>(some (t187.toList == um.toList))) else (some false))) else (some false))) else ((gz.f k wV um Cy).bind fun t188=>(if t188=true then ((jk.f k um).bind fun t189=>(some t189)) else (some false))))
def cI.f (k:Nat) (bf:ByteArray) (bP:ByteArray) (cE:Bool):Option (Bool):=cI.l0 k (bf.size:Int) 0 bf bP cE
theorem cI.ey:∀ k,(∀ y0 y1 y2 y3 y4,eY (cI.l0 k y0 y1 y2 y3 y4) (cI.l0 (k + 1) y0 y1 y2 y3 y4))
 | 0=>fun _ _ _ _ _ r h=>by simp [cI.l0] at h
 |k + 1=>by
  have mC:=cI.ey k
  ·intro y0 y1 y2 y3 y4
   unfold cI.l0
   repeat' (with_reducible first|exact mC _ _ _ _ _|exact cV.mono _ _|exact jk.mono _ _|exact gz.mono _ _ _ _|exact eY.refl _|refine eY.ite ?_ ?_|refine eY.bind ?_ (fun _ =>?_))
theorem cI.mono:∀ a0 a1 a2 k,eY (cI.f k a0 a1 a2) (cI.f (k + 1) a0 a1 a2):=by
 intro a0 a1 a2 k
 have mC:=cI.ey k
 unfold cI.f
 repeat' (with_reducible exact mC _ _ _ _ _)
def cI.T8:Bool×List (List Nat×List Nat):=(true,[([],[]),([0],[0]),([1,1],[1]),([2],[2]),([3,2],[2,3]),([4,2,2],[2,4]),([2,5],[2,5]),([6,5],[6]),([7],[7]),([8,7],[7,8]),([9,7,7],[7,9]),([7],[7]),([11,7],[7,11]),([10,12,7],[7,10,12]),([7,13],[7,13]),([14,10,0,1,2,3,4,5,6,7,8,9,10,11,12,13,14],[14])])
def cI.B8:List Nat:=[0,1,3,7,15,31,63,127,255,511,1023,255,2303,8191,16383,32767]
theorem cI.abu:pW .any (opsOf Tryz.f143 8)=cI.T8:=by kernel_rfl
theorem cI.Tb:pP cI.T8.2 cI.B8=true:=by kernel_rfl
set_option maxHeartbeats 8000000 in
set_option maxRecDepth 100000 in
theorem cI.calls (k:Nat) (bf:ByteArray) (bP:ByteArray) (cE:Bool) (r:Bool) (w:World) (hG:bp w) (h:cI.f k bf bP cE=some r):
 Calls Tryz.prog 143 #[.agg #[.string bf,.string bP,.bool cE]] w fun e w'=>e= .returned (.bool r)∧Below w.heap.size w w':=by
 have JW:=Tryz.underlying29
 have HB:=ah.mk (Below.refl w.heap.size w)
 have HG:=ah.mk hG
 clear hG
 have H:(cI.l0 k (bf.size:Int) 0 bf bP cE)=some r:=h
 clear h
 have H':=ah.mk H
 clear H
 go_enter Tryz.func143,Tryz.ntmps143
 go_wp2_with (((with_reducible refine bq (N:=1) rfl ?_);refine br ?hg (N:=1) ?hd (cs:=#[.string bf,.string bP,.bool cE]) (t:=29) ?hr ?_;(case hd=>rfl);(case hg=>rfl);(case hr=>(go_simp;done));intro ig hg w2 bJ hb;have cJ:=ah.mk (bJ);have ay8:=ah.mk ((bI:w.heap.size≤ig));have ay9:=ah.mk ((bI:w.heap.size≤ig));replace HB:=ah.mk (ay aJ hb);clear hb bJ hg;have Lq:w2.cell? ⟨ig,0,none⟩=some (.string bf):=(af cJ.out 0).trans rfl;have Lr:w2.cell? ⟨ig,1,none⟩=some (.string bP):=(af cJ.out 1).trans rfl;have awB:w2.cell? ⟨ig,2,none⟩=some (.bool cE):=(af cJ.out 2).trans rfl;have Ls:=aa cJ.out 0;have Lt:=aa cJ.out 1;have awC:=aa cJ.out 2))
 go_loopg [7] k (fun kq v7 w'=>∃ (qG:Int),v7= .int .i64 qG∧ah (cI.l0 kq (bf.size:Int) qG bf bP cE=some r)∧ah (kq≤k)∧ah (w'.heap[ig]? =some (.cells #[.string bf,.string bP,.bool cE] 29 (0,0)))∧ah (Below w.heap.size w w'))
 case atStart=>exact ⟨(0),(by rfl),H',⟨Nat.le_refl _⟩,⟨ou⟩,⟨aJ⟩⟩
 case round=>
  clear H'
  obtain ⟨qG,rfl,HA,qi,cJ,HB⟩:=hrel
  cases gk with
  |zero=>exact absurd HA.out (by simp [cI.l0])
  |succ k1=>
   have H:=HA.out
   clear HA
   simp only [cI.l0] at H
   by_cases c4:qG < (bf.size:Int)
   ·rw [if_pos c4] at H
    have mo:=decide_eq_true c4
    clear c4
    obtain ⟨c5,H⟩:=lJ H
    have pG:=decide_eq_true c5
    clear c5
    obtain ⟨c6,H⟩:=lJ H
    have xW:=decide_eq_true c6
    clear c6
    by_cases c8:(bt bf qG) < 32
    ·rw [if_pos c8] at H
     have BF:=decide_eq_true c8
     clear c8
     obtain rfl:=Option.some.inj H
     have Af:wr.cell? ⟨ig,0,none⟩=some (.string bf):=(af cJ.out 0).trans rfl
     have Ag:wr.cell? ⟨ig,1,none⟩=some (.string bP):=(af cJ.out 1).trans rfl
     have Tc:wr.cell? ⟨ig,2,none⟩=some (.bool cE):=(af cJ.out 2).trans rfl
     have Ah:=aa cJ.out 0
     have Ai:=aa cJ.out 1
     have Td:=aa cJ.out 2
     have p7: 0≤(qG:Int):=of_decide_eq_true cu
     have q7:qG < (bf.size:Int):=of_decide_eq_true cu
     have Vn:=vw bf qG
     replace p7:=eq_true p7
     replace q7:=eq_true q7
     go_wp2
     go_ret
     exact ⟨by rfl,aJ⟩
    ·rw [if_neg c8] at H
     have BF:=decide_eq_false c8
     clear c8
     by_cases c11:(bt bf qG) > 126
     ·rw [if_pos c11] at H
      have DA:decide (126 < (bt bf qG))=true:=decide_eq_true c11
      clear c11
      obtain rfl:=Option.some.inj H
      have ue:wr.cell? ⟨ig,0,none⟩=some (.string bf):=(af cJ.out 0).trans rfl
      have uf:wr.cell? ⟨ig,1,none⟩=some (.string bP):=(af cJ.out 1).trans rfl
      have wP:wr.cell? ⟨ig,2,none⟩=some (.bool cE):=(af cJ.out 2).trans rfl
      have ug:=aa cJ.out 0
      have uh:=aa cJ.out 1
      have wQ:=aa cJ.out 2
      have p7: 0≤(qG:Int):=of_decide_eq_true cu
      have q7:qG < (bf.size:Int):=of_decide_eq_true cu
      have Vn:=vw bf qG
      replace p7:=eq_true p7
      replace q7:=eq_true q7
      have p10: 0≤(qG:Int):=of_decide_eq_true cu
      have q10:qG < (bf.size:Int):=of_decide_eq_true cu
      have awD:=vw bf qG
      replace p10:=eq_true p10
      replace q10:=eq_true q10
      go_wp2
      go_ret
      exact ⟨by rfl,aJ⟩
     ·rw [if_neg c11] at H
      have DA:decide (126 < (bt bf qG))=false:=decide_eq_false c11
      clear c11
      have H':=ah.mk H
      clear H
      have U8:wr.cell? ⟨ig,0,none⟩=some (.string bf):=(af cJ.out 0).trans rfl
      have U9:wr.cell? ⟨ig,1,none⟩=some (.string bP):=(af cJ.out 1).trans rfl
      have akE:wr.cell? ⟨ig,2,none⟩=some (.bool cE):=(af cJ.out 2).trans rfl
      have Va:=aa cJ.out 0
      have Vb:=aa cJ.out 1
      have akF:=aa cJ.out 2
      have p7: 0≤(qG:Int):=of_decide_eq_true cu
      have q7:qG < (bf.size:Int):=of_decide_eq_true cu
      have Vn:=vw bf qG
      replace p7:=eq_true p7
      replace q7:=eq_true q7
      have p10: 0≤(qG:Int):=of_decide_eq_true cu
      have q10:qG < (bf.size:Int):=of_decide_eq_true cu
      have awD:=vw bf qG
      replace p10:=eq_true p10
      replace q10:=eq_true q10
      go_wp2
      go_roundg k1
      case measure=>have:=qi.out;omega
      case rel=>exact ⟨(wrap64 (qG + 1)),(by rfl),H',⟨lI⟩,⟨ou⟩,⟨aJ⟩⟩
   ·rw [if_neg c4] at H
    have mo:=decide_eq_false c4
    clear c4
    by_cases c14:cE=true
    ·subst c14
     rw [if_pos rfl] at H
     obtain ⟨t185,A15,H⟩:=bd_ H
     by_cases c16:t185=true
     ·subst c16
      rw [if_pos rfl] at H
      obtain ⟨t186,QB,H⟩:=bd_ H
      by_cases c18:t186=true
      ·subst c18
       rw [if_pos rfl] at H
       obtain ⟨t187,A19,H⟩:=bd_ H
       obtain rfl:=Option.some.inj H
       have Cz:wr.cell? ⟨ig,0,none⟩=some (.string bf):=(af cJ.out 0).trans rfl
       have CA:wr.cell? ⟨ig,1,none⟩=some (.string bP):=(af cJ.out 1).trans rfl
       have CB:wr.cell? ⟨ig,2,none⟩=some (.bool true):=(af cJ.out 2).trans rfl
       have CC:=aa cJ.out 0
       have CD:=aa cJ.out 1
       have CE:=aa cJ.out 2
       try go_wp2
       have jT:=ah.mk (iw cJ.out)
       have jU:=ah.mk (fW HB.out)
       clear cJ
       clear HB
       have cJ:=jT
       have HB:=jU
       clear jT jU
       refine kK (n:=16) (S:=fun w'=>w'.cell? ⟨ig,0,none⟩=some (.string bf)∧w'.cell? ⟨ig,1,none⟩=some (.string bP)∧w'.cell? ⟨ig,2,none⟩=some (.bool true)) (ds:=[]) #[false,false,false,false,false,false,false,false,false,false,false,false,false,false,false,false] aq (by rfl) (by rfl) ⟨(af cJ.out 0).trans rfl,(af cJ.out 1).trans rfl,(af cJ.out 2).trans rfl⟩ (fun hHeld=>?_);refine kB cI.abu cI.Tb (fun dc q8=>?_)
       generalize wr.drew=QC at cJ HB hHeld ⊢
       refine fN (i:=0) (N:=some 25) #[true,false,false,false,false,false,false,false,false,false,false,false,false,false,false,false] rfl rfl (eU dc.out q8.out aq) (fun _ _ _ h=>h) (Or.inl ⟨by rfl,xK⟩) hHeld rfl ?_
       refine nL (i:=1) (N:=some 26) #[true,true,false,false,false,false,false,false,false,false,false,false,false,false,false,false] rfl rfl (jJ dc.out aq) bB (fun K hK=>?_)
       refine lg Tryz.func186 aq rfl #[.agg #[.string bf,.string bP,.bool true]] (by rfl) rfl rfl dI ?_
       with_reducible refine (gz.calls k1 bf bP true true _ ?bk A15.out).mono ?_
       (case bk=>exact bp.below HG.out aJ)
       rintro e UC ⟨rfl,hb⟩
       refine ⟨_,rfl,?_⟩
       have jT:=ah.mk (az ou hb)
       have jU:=ah.mk (ay aJ hb)
       clear cJ
       clear HB
       have cJ:=jT
       have HB:=jU
       clear jT jU
       refine hK.out _ _ ⟨(af cJ.out 0).trans rfl,(af cJ.out 1).trans rfl,(af cJ.out 2).trans rfl⟩ (fun hHeld=>?_)
       clear hK K
       refine jW (a':=?_) ?_ ?_
       rotate_left
       ·show Act.put _ (some 26) _=_
        simp only [Act.put,List.setIfInBounds_toArray,List.set_cons_zero,List.set_cons_succ,aU,aV]
        rfl
       refine aN (i:=2) (N:=some 27) #[true,true,true,false,false,false,false,false,false,false,false,false,false,false,false,false] rfl rfl (bg dc.out aq) (fun _ _ _ h=>h) (Or.inl ⟨by rfl,cD⟩) rfl ?_
       refine aN (i:=3) (N:=some 28) #[true,true,true,true,false,false,false,false,false,false,false,false,false,false,false,false] rfl rfl (bg dc.out aq) (fun _ _ _ h=>h) (Or.inl ⟨by rfl,cD⟩) rfl ?_
       refine fN (i:=4) (N:=some 29) #[true,true,true,true,true,false,false,false,false,false,false,false,false,false,false,false] rfl rfl (eU dc.out q8.out aq) (fun _ _ _ h=>h) (Or.inl ⟨by rfl,xK⟩) hHeld rfl ?_
       refine nL (i:=5) (N:=some 30) #[true,true,true,true,true,true,false,false,false,false,false,false,false,false,false,false] rfl rfl (jJ dc.out aq) bB (fun K hK=>?_)
       refine lg Tryz.func187 aq rfl #[.string bP] (by rfl) rfl rfl dI ?_
       with_reducible refine (cV.calls k1 bP true _ ?bk QB.out).mono ?_
       (case bk=>exact bp.below HG.out aJ)
       rintro e rG ⟨rfl,hb⟩
       refine ⟨_,rfl,?_⟩
       have jT:=ah.mk (az ou hb)
       have jU:=ah.mk (ay aJ hb)
       clear cJ
       clear HB
       have cJ:=jT
       have HB:=jU
       clear jT jU
       refine hK.out _ _ ⟨(af cJ.out 0).trans rfl,(af cJ.out 1).trans rfl,(af cJ.out 2).trans rfl⟩ (fun hHeld=>?_)
       clear hK K
       refine jW (a':=?_) ?_ ?_
       rotate_left
       ·show Act.put _ (some 30) _=_
        simp only [Act.put,List.setIfInBounds_toArray,List.set_cons_zero,List.set_cons_succ,aU,aV]
        rfl
       refine aN (i:=6) (N:=some 31) #[true,true,true,true,true,true,true,false,false,false,false,false,false,false,false,false] rfl rfl (bg dc.out aq) (fun _ _ _ h=>h) (Or.inl ⟨by rfl,cD⟩) rfl ?_
       refine aN (i:=7) (N:=some 32) #[true,true,true,true,true,true,true,true,false,false,false,false,false,false,false,false] rfl rfl (bg dc.out aq) (fun _ _ _ h=>h) (Or.inl ⟨by rfl,cD⟩) rfl ?_
       refine aN (i:=8) (N:=some 33) #[true,true,true,true,true,true,true,true,true,false,false,false,false,false,false,false] rfl rfl (bg dc.out aq) (fun _ _ _ h=>h) (Or.inl ⟨by rfl,cD⟩) rfl ?_
       refine aN (i:=11) (N:=some 36) #[true,true,true,true,true,true,true,true,true,false,false,true,false,false,false,false] rfl rfl (bg dc.out aq) (fun _ _ _ h=>h) (Or.inl ⟨by rfl,cD⟩) rfl ?_
       refine fN (i:=9) (N:=some 34) #[true,true,true,true,true,true,true,true,true,true,false,true,false,false,false,false] rfl rfl (eU dc.out q8.out aq) (fun _ _ _ h=>h) (Or.inl ⟨by rfl,xK⟩) hHeld rfl ?_
       refine fN (i:=12) (N:=some 37) #[true,true,true,true,true,true,true,true,true,true,false,true,true,false,false,false] rfl rfl (eU dc.out q8.out aq) (fun _ _ _ h=>h) (Or.inl ⟨by rfl,xK⟩) hHeld rfl ?_
       refine nL (i:=10) (N:=some 35) #[true,true,true,true,true,true,true,true,true,true,true,true,true,false,false,false] rfl rfl (jJ dc.out aq) bB (fun K hK=>?_)
       refine lg Tryz.func139 aq rfl #[.string bP] (by rfl) rfl rfl dI ?_
       with_reducible refine (eW.calls bP t187 _ A19.out).mono ?_
       rintro e xY ⟨rfl,hb⟩
       refine ⟨_,rfl,?_⟩
       have jT:=ah.mk (az ou hb)
       have jU:=ah.mk (ay aJ hb)
       clear cJ
       clear HB
       have cJ:=jT
       have HB:=jU
       clear jT jU
       refine hK.out _ _ ⟨(af cJ.out 0).trans rfl,(af cJ.out 1).trans rfl,(af cJ.out 2).trans rfl⟩ (fun hHeld=>?_)
       clear hK K
       refine jW (a':=?_) ?_ ?_
       rotate_left
       ·show Act.put _ (some 35) _=_
        simp only [Act.put,List.setIfInBounds_toArray,List.set_cons_zero,List.set_cons_succ,aU,aV]
        rfl
       refine aN (i:=13) (N:=some 38) #[true,true,true,true,true,true,true,true,true,true,true,true,true,true,false,false] rfl rfl (bg dc.out aq) (fun _ _ _ h=>h) (Or.inl ⟨by rfl,cD⟩) rfl ?_
       refine aN (i:=14) (N:=some 39) #[true,true,true,true,true,true,true,true,true,true,true,true,true,true,true,false] rfl rfl (bg dc.out aq) (fun _ _ _ h=>h) (Or.inl ⟨by rfl,cD⟩) rfl ?_
       refine aN (i:=15) (N:=some 2) #[true,true,true,true,true,true,true,true,true,true,true,true,true,true,true,true] rfl rfl (bg dc.out aq) (fun _ _ _ h=>h) (Or.inl ⟨by rfl,cD⟩) rfl ?_
       refine nk (nD dc.out aq) ?_
       try go_wp2
       go_ret
       exact ⟨by rfl,aJ⟩
      ·replace c18:=Bool.eq_false_iff.mpr c18
       subst c18
       rw [if_neg (show ¬ (false=true) by decide)] at H
       obtain rfl:=Option.some.inj H
       have CF:wr.cell? ⟨ig,0,none⟩=some (.string bf):=(af cJ.out 0).trans rfl
       have CG:wr.cell? ⟨ig,1,none⟩=some (.string bP):=(af cJ.out 1).trans rfl
       have CH:wr.cell? ⟨ig,2,none⟩=some (.bool true):=(af cJ.out 2).trans rfl
       have CI:=aa cJ.out 0
       have CJ:=aa cJ.out 1
       have CK:=aa cJ.out 2
       try go_wp2
       have jT:=ah.mk (iw cJ.out)
       have jU:=ah.mk (fW HB.out)
       clear cJ
       clear HB
       have cJ:=jT
       have HB:=jU
       clear jT jU
       refine kK (n:=16) (S:=fun w'=>w'.cell? ⟨ig,0,none⟩=some (.string bf)∧w'.cell? ⟨ig,1,none⟩=some (.string bP)∧w'.cell? ⟨ig,2,none⟩=some (.bool true)) (ds:=[]) #[false,false,false,false,false,false,false,false,false,false,false,false,false,false,false,false] aq (by rfl) (by rfl) ⟨(af cJ.out 0).trans rfl,(af cJ.out 1).trans rfl,(af cJ.out 2).trans rfl⟩ (fun hHeld=>?_);refine kB cI.abu cI.Tb (fun dc q8=>?_)
       generalize wr.drew=K1 at cJ HB hHeld ⊢
       refine fN (i:=0) (N:=some 25) #[true,false,false,false,false,false,false,false,false,false,false,false,false,false,false,false] rfl rfl (eU dc.out q8.out aq) (fun _ _ _ h=>h) (Or.inl ⟨by rfl,xK⟩) hHeld rfl ?_
       refine nL (i:=1) (N:=some 26) #[true,true,false,false,false,false,false,false,false,false,false,false,false,false,false,false] rfl rfl (jJ dc.out aq) bB (fun K hK=>?_)
       refine lg Tryz.func186 aq rfl #[.agg #[.string bf,.string bP,.bool true]] (by rfl) rfl rfl dI ?_
       with_reducible refine (gz.calls k1 bf bP true true _ ?bk A15.out).mono ?_
       (case bk=>exact bp.below HG.out aJ)
       rintro e QD ⟨rfl,hb⟩
       refine ⟨_,rfl,?_⟩
       have jT:=ah.mk (az ou hb)
       have jU:=ah.mk (ay aJ hb)
       clear cJ
       clear HB
       have cJ:=jT
       have HB:=jU
       clear jT jU
       refine hK.out _ _ ⟨(af cJ.out 0).trans rfl,(af cJ.out 1).trans rfl,(af cJ.out 2).trans rfl⟩ (fun hHeld=>?_)
       clear hK K
       refine jW (a':=?_) ?_ ?_
       rotate_left
       ·show Act.put _ (some 26) _=_
        simp only [Act.put,List.setIfInBounds_toArray,List.set_cons_zero,List.set_cons_succ,aU,aV]
        rfl
       refine aN (i:=2) (N:=some 27) #[true,true,true,false,false,false,false,false,false,false,false,false,false,false,false,false] rfl rfl (bg dc.out aq) (fun _ _ _ h=>h) (Or.inl ⟨by rfl,cD⟩) rfl ?_
       refine aN (i:=3) (N:=some 28) #[true,true,true,true,false,false,false,false,false,false,false,false,false,false,false,false] rfl rfl (bg dc.out aq) (fun _ _ _ h=>h) (Or.inl ⟨by rfl,cD⟩) rfl ?_
       refine fN (i:=4) (N:=some 29) #[true,true,true,true,true,false,false,false,false,false,false,false,false,false,false,false] rfl rfl (eU dc.out q8.out aq) (fun _ _ _ h=>h) (Or.inl ⟨by rfl,xK⟩) hHeld rfl ?_
       refine nL (i:=5) (N:=some 30) #[true,true,true,true,true,true,false,false,false,false,false,false,false,false,false,false] rfl rfl (jJ dc.out aq) bB (fun K hK=>?_)
       refine lg Tryz.func187 aq rfl #[.string bP] (by rfl) rfl rfl dI ?_
       with_reducible refine (cV.calls k1 bP false _ ?bk QB.out).mono ?_
       (case bk=>exact bp.below HG.out aJ)
       rintro e Ak ⟨rfl,hb⟩
       refine ⟨_,rfl,?_⟩
       have jT:=ah.mk (az ou hb)
       have jU:=ah.mk (ay aJ hb)
       clear cJ
       clear HB
       have cJ:=jT
       have HB:=jU
       clear jT jU
       refine hK.out _ _ ⟨(af cJ.out 0).trans rfl,(af cJ.out 1).trans rfl,(af cJ.out 2).trans rfl⟩ (fun hHeld=>?_)
       clear hK K
       refine jW (a':=?_) ?_ ?_
       rotate_left
       ·show Act.put _ (some 30) _=_
        simp only [Act.put,List.setIfInBounds_toArray,List.set_cons_zero,List.set_cons_succ,aU,aV]
        rfl
       refine aN (i:=6) (N:=some 31) #[true,true,true,true,true,true,true,false,false,false,false,false,false,false,false,false] rfl rfl (bg dc.out aq) (fun _ _ _ h=>h) (Or.inl ⟨by rfl,cD⟩) rfl ?_
       refine aN (i:=7) (N:=some 32) #[true,true,true,true,true,true,true,true,false,false,false,false,false,false,false,false] rfl rfl (bg dc.out aq) (fun _ _ _ h=>h) (Or.inl ⟨by rfl,cD⟩) rfl ?_
       refine aN (i:=8) (N:=some 33) (v:=undef) (a':=?_) #[true,true,true,true,true,true,true,true,true,false,false,false,false,false,false,false] rfl rfl (bg dc.out aq) (fun _ _ _ h=>h) (Or.inr ⟨by rfl,rfl⟩) ?_ ?_
       rotate_left
       ·simp only [Act.put,List.setIfInBounds_toArray,List.set_cons_zero,List.set_cons_succ,aU,aV]
        rfl
       refine aN (i:=9) (N:=some 34) (v:=undef) (a':=?_) #[true,true,true,true,true,true,true,true,true,true,false,false,false,false,false,false] rfl rfl (bg dc.out aq) (fun _ _ _ h=>h) (Or.inr ⟨by rfl,rfl⟩) ?_ ?_
       rotate_left
       ·simp only [Act.put,List.setIfInBounds_toArray,List.set_cons_zero,List.set_cons_succ,aU,aV]
        rfl
       refine aN (i:=10) (N:=some 35) (v:=undef) (a':=?_) #[true,true,true,true,true,true,true,true,true,true,true,false,false,false,false,false] rfl rfl (bg dc.out aq) (fun _ _ _ h=>h) (Or.inr ⟨by rfl,rfl⟩) ?_ ?_
       rotate_left
       ·simp only [Act.put,List.setIfInBounds_toArray,List.set_cons_zero,List.set_cons_succ,aU,aV]
        rfl
       refine aN (i:=11) (N:=some 36) (v:=undef) (a':=?_) #[true,true,true,true,true,true,true,true,true,true,true,true,false,false,false,false] rfl rfl (bg dc.out aq) (fun _ _ _ h=>h) (Or.inr ⟨by rfl,rfl⟩) ?_ ?_
       rotate_left
       ·simp only [Act.put,List.setIfInBounds_toArray,List.set_cons_zero,List.set_cons_succ,aU,aV]
        rfl
       refine aN (i:=12) (N:=some 37) (v:=undef) (a':=?_) #[true,true,true,true,true,true,true,true,true,true,true,true,true,false,false,false] rfl rfl (bg dc.out aq) (fun _ _ _ h=>h) (Or.inr ⟨by rfl,rfl⟩) ?_ ?_
       rotate_left
       ·simp only [Act.put,List.setIfInBounds_toArray,List.set_cons_zero,List.set_cons_succ,aU,aV]
        rfl
       refine aN (i:=13) (N:=some 38) (v:=undef) (a':=?_) #[true,true,true,true,true,true,true,true,true,true,true,true,true,true,false,false] rfl rfl (bg dc.out aq) (fun _ _ _ h=>h) (Or.inr ⟨by rfl,rfl⟩) ?_ ?_
       rotate_left
       ·simp only [Act.put,List.setIfInBounds_toArray,List.set_cons_zero,List.set_cons_succ,aU,aV]
        rfl
       refine aN (i:=14) (N:=some 39) #[true,true,true,true,true,true,true,true,true,true,true,true,true,true,true,false] rfl rfl (bg dc.out aq) (fun _ _ _ h=>h) (Or.inl ⟨by rfl,cD⟩) rfl ?_
       refine aN (i:=15) (N:=some 2) #[true,true,true,true,true,true,true,true,true,true,true,true,true,true,true,true] rfl rfl (bg dc.out aq) (fun _ _ _ h=>h) (Or.inl ⟨by rfl,cD⟩) rfl ?_
       refine nk (nD dc.out aq) ?_
       try go_wp2
       go_ret
       exact ⟨by rfl,aJ⟩
     ·replace c16:=Bool.eq_false_iff.mpr c16
      subst c16
      rw [if_neg (show ¬ (false=true) by decide)] at H
      obtain rfl:=Option.some.inj H
      have Vo:wr.cell? ⟨ig,0,none⟩=some (.string bf):=(af cJ.out 0).trans rfl
      have Vp:wr.cell? ⟨ig,1,none⟩=some (.string bP):=(af cJ.out 1).trans rfl
      have Vq:wr.cell? ⟨ig,2,none⟩=some (.bool true):=(af cJ.out 2).trans rfl
      have Vr:=aa cJ.out 0
      have Vs:=aa cJ.out 1
      have Vt:=aa cJ.out 2
      try go_wp2
      have jT:=ah.mk (iw cJ.out)
      have jU:=ah.mk (fW HB.out)
      clear cJ
      clear HB
      have cJ:=jT
      have HB:=jU
      clear jT jU
      refine kK (n:=16) (S:=fun w'=>w'.cell? ⟨ig,0,none⟩=some (.string bf)∧w'.cell? ⟨ig,1,none⟩=some (.string bP)∧w'.cell? ⟨ig,2,none⟩=some (.bool true)) (ds:=[]) #[false,false,false,false,false,false,false,false,false,false,false,false,false,false,false,false] aq (by rfl) (by rfl) ⟨(af cJ.out 0).trans rfl,(af cJ.out 1).trans rfl,(af cJ.out 2).trans rfl⟩ (fun hHeld=>?_);refine kB cI.abu cI.Tb (fun dc q8=>?_)
      generalize wr.drew=w30 at cJ HB hHeld ⊢
      refine fN (i:=0) (N:=some 25) #[true,false,false,false,false,false,false,false,false,false,false,false,false,false,false,false] rfl rfl (eU dc.out q8.out aq) (fun _ _ _ h=>h) (Or.inl ⟨by rfl,xK⟩) hHeld rfl ?_
      refine nL (i:=1) (N:=some 26) #[true,true,false,false,false,false,false,false,false,false,false,false,false,false,false,false] rfl rfl (jJ dc.out aq) bB (fun K hK=>?_)
      refine lg Tryz.func186 aq rfl #[.agg #[.string bf,.string bP,.bool true]] (by rfl) rfl rfl dI ?_
      with_reducible refine (gz.calls k1 bf bP true false _ ?bk A15.out).mono ?_
      (case bk=>exact bp.below HG.out aJ)
      rintro e w31 ⟨rfl,hb⟩
      refine ⟨_,rfl,?_⟩
      have jT:=ah.mk (az ou hb)
      have jU:=ah.mk (ay aJ hb)
      clear cJ
      clear HB
      have cJ:=jT
      have HB:=jU
      clear jT jU
      refine hK.out _ _ ⟨(af cJ.out 0).trans rfl,(af cJ.out 1).trans rfl,(af cJ.out 2).trans rfl⟩ (fun hHeld=>?_)
      clear hK K
      refine jW (a':=?_) ?_ ?_
      rotate_left
      ·show Act.put _ (some 26) _=_
       simp only [Act.put,List.setIfInBounds_toArray,List.set_cons_zero,List.set_cons_succ,aU,aV]
       rfl
      refine aN (i:=2) (N:=some 27) #[true,true,true,false,false,false,false,false,false,false,false,false,false,false,false,false] rfl rfl (bg dc.out aq) (fun _ _ _ h=>h) (Or.inl ⟨by rfl,cD⟩) rfl ?_
      refine aN (i:=3) (N:=some 28) (v:=undef) (a':=?_) #[true,true,true,true,false,false,false,false,false,false,false,false,false,false,false,false] rfl rfl (bg dc.out aq) (fun _ _ _ h=>h) (Or.inr ⟨by rfl,rfl⟩) ?_ ?_
      rotate_left
      ·simp only [Act.put,List.setIfInBounds_toArray,List.set_cons_zero,List.set_cons_succ,aU,aV]
       rfl
      refine aN (i:=4) (N:=some 29) (v:=undef) (a':=?_) #[true,true,true,true,true,false,false,false,false,false,false,false,false,false,false,false] rfl rfl (bg dc.out aq) (fun _ _ _ h=>h) (Or.inr ⟨by rfl,rfl⟩) ?_ ?_
      rotate_left
      ·simp only [Act.put,List.setIfInBounds_toArray,List.set_cons_zero,List.set_cons_succ,aU,aV]
       rfl
      refine aN (i:=5) (N:=some 30) (v:=undef) (a':=?_) #[true,true,true,true,true,true,false,false,false,false,false,false,false,false,false,false] rfl rfl (bg dc.out aq) (fun _ _ _ h=>h) (Or.inr ⟨by rfl,rfl⟩) ?_ ?_
      rotate_left
      ·simp only [Act.put,List.setIfInBounds_toArray,List.set_cons_zero,List.set_cons_succ,aU,aV]
       rfl
      refine aN (i:=6) (N:=some 31) #[true,true,true,true,true,true,true,false,false,false,false,false,false,false,false,false] rfl rfl (bg dc.out aq) (fun _ _ _ h=>h) (Or.inl ⟨by rfl,cD⟩) rfl ?_
      refine aN (i:=7) (N:=some 32) #[true,true,true,true,true,true,true,true,false,false,false,false,false,false,false,false] rfl rfl (bg dc.out aq) (fun _ _ _ h=>h) (Or.inl ⟨by rfl,cD⟩) rfl ?_
      refine aN (i:=8) (N:=some 33) (v:=undef) (a':=?_) #[true,true,true,true,true,true,true,true,true,false,false,false,false,false,false,false] rfl rfl (bg dc.out aq) (fun _ _ _ h=>h) (Or.inr ⟨by rfl,rfl⟩) ?_ ?_
      rotate_left
      ·simp only [Act.put,List.setIfInBounds_toArray,List.set_cons_zero,List.set_cons_succ,aU,aV]
       rfl
      refine aN (i:=9) (N:=some 34) (v:=undef) (a':=?_) #[true,true,true,true,true,true,true,true,true,true,false,false,false,false,false,false] rfl rfl (bg dc.out aq) (fun _ _ _ h=>h) (Or.inr ⟨by rfl,rfl⟩) ?_ ?_
      rotate_left
      ·simp only [Act.put,List.setIfInBounds_toArray,List.set_cons_zero,List.set_cons_succ,aU,aV]
       rfl
      refine aN (i:=10) (N:=some 35) (v:=undef) (a':=?_) #[true,true,true,true,true,true,true,true,true,true,true,false,false,false,false,false] rfl rfl (bg dc.out aq) (fun _ _ _ h=>h) (Or.inr ⟨by rfl,rfl⟩) ?_ ?_
      rotate_left
      ·simp only [Act.put,List.setIfInBounds_toArray,List.set_cons_zero,List.set_cons_succ,aU,aV]
       rfl
      refine aN (i:=11) (N:=some 36) (v:=undef) (a':=?_) #[true,true,true,true,true,true,true,true,true,true,true,true,false,false,false,false] rfl rfl (bg dc.out aq) (fun _ _ _ h=>h) (Or.inr ⟨by rfl,rfl⟩) ?_ ?_
      rotate_left
      ·simp only [Act.put,List.setIfInBounds_toArray,List.set_cons_zero,List.set_cons_succ,aU,aV]
       rfl
      refine aN (i:=12) (N:=some 37) (v:=undef) (a':=?_) #[true,true,true,true,true,true,true,true,true,true,true,true,true,false,false,false] rfl rfl (bg dc.out aq) (fun _ _ _ h=>h) (Or.inr ⟨by rfl,rfl⟩) ?_ ?_
      rotate_left
      ·simp only [Act.put,List.setIfInBounds_toArray,List.set_cons_zero,List.set_cons_succ,aU,aV]
       rfl
      refine aN (i:=13) (N:=some 38) (v:=undef) (a':=?_) #[true,true,true,true,true,true,true,true,true,true,true,true,true,true,false,false] rfl rfl (bg dc.out aq) (fun _ _ _ h=>h) (Or.inr ⟨by rfl,rfl⟩) ?_ ?_
      rotate_left
      ·simp only [Act.put,List.setIfInBounds_toArray,List.set_cons_zero,List.set_cons_succ,aU,aV]
       rfl
      refine aN (i:=14) (N:=some 39) #[true,true,true,true,true,true,true,true,true,true,true,true,true,true,true,false] rfl rfl (bg dc.out aq) (fun _ _ _ h=>h) (Or.inl ⟨by rfl,cD⟩) rfl ?_
      refine aN (i:=15) (N:=some 2) #[true,true,true,true,true,true,true,true,true,true,true,true,true,true,true,true] rfl rfl (bg dc.out aq) (fun _ _ _ h=>h) (Or.inl ⟨by rfl,cD⟩) rfl ?_
      refine nk (nD dc.out aq) ?_
      try go_wp2
      go_ret
      exact ⟨by rfl,aJ⟩
    ·replace c14:=Bool.eq_false_iff.mpr c14
     subst c14
     rw [if_neg (show ¬ (false=true) by decide)] at H
     obtain ⟨t188,A32,H⟩:=bd_ H
     by_cases c33:t188=true
     ·subst c33
      rw [if_pos rfl] at H
      obtain ⟨t189,A34,H⟩:=bd_ H
      obtain rfl:=Option.some.inj H
      have Vu:wr.cell? ⟨ig,0,none⟩=some (.string bf):=(af cJ.out 0).trans rfl
      have Vv:wr.cell? ⟨ig,1,none⟩=some (.string bP):=(af cJ.out 1).trans rfl
      have Vw:wr.cell? ⟨ig,2,none⟩=some (.bool false):=(af cJ.out 2).trans rfl
      have Vx:=aa cJ.out 0
      have Vy:=aa cJ.out 1
      have Vz:=aa cJ.out 2
      go_wp2_with (first|((with_reducible refine bH (f:=186) rfl ?_);refine dx (some 41) rfl rfl Tryz.func186 aq rfl #[.agg #[.string bf,.string bP,.bool false]] rfl dI ?_;(with_reducible refine (gz.calls k1 bf bP false true _ ?bk A32.out).mono ?_);(case bk=>exact bp.below HG.out aJ);rintro e w36 ⟨rfl,hb⟩;refine ⟨_,rfl,?_⟩;replace cJ:=ah.mk (az ou hb);replace HB:=ah.mk (ay aJ hb);(try clear hb);have GH:w36.cell? ⟨ig,0,none⟩=some (.string bf):=(af cJ.out 0).trans rfl;have GI:w36.cell? ⟨ig,1,none⟩=some (.string bP):=(af cJ.out 1).trans rfl;have GJ:w36.cell? ⟨ig,2,none⟩=some (.bool false):=(af cJ.out 2).trans rfl;have GK:=aa cJ.out 0;have GL:=aa cJ.out 1;have GM:=aa cJ.out 2)|(go_at_call 145;(with_reducible refine (jk.calls k1 bP t189 _ ?bk A34.out).mono ?_);(case bk=>exact bp.below HG.out aJ);rintro e sN ⟨rfl,hb⟩;replace cJ:=ah.mk (az ou hb);replace HB:=ah.mk (ay aJ hb);(try clear hb)))
      go_ret
      exact ⟨by rfl,aJ⟩
     ·replace c33:=Bool.eq_false_iff.mpr c33
      subst c33
      rw [if_neg (show ¬ (false=true) by decide)] at H
      obtain rfl:=Option.some.inj H
      have ND:wr.cell? ⟨ig,0,none⟩=some (.string bf):=(af cJ.out 0).trans rfl
      have NF:wr.cell? ⟨ig,1,none⟩=some (.string bP):=(af cJ.out 1).trans rfl
      have NG:wr.cell? ⟨ig,2,none⟩=some (.bool false):=(af cJ.out 2).trans rfl
      have NH:=aa cJ.out 0
      have NI:=aa cJ.out 1
      have NJ:=aa cJ.out 2
      go_wp2_with (((with_reducible refine bH (f:=186) rfl ?_);refine dx (some 41) rfl rfl Tryz.func186 aq rfl #[.agg #[.string bf,.string bP,.bool false]] rfl dI ?_;(with_reducible refine (gz.calls k1 bf bP false false _ ?bk A32.out).mono ?_);(case bk=>exact bp.below HG.out aJ);rintro e w40 ⟨rfl,hb⟩;refine ⟨_,rfl,?_⟩;replace cJ:=ah.mk (az ou hb);replace HB:=ah.mk (ay aJ hb);(try clear hb)))
      go_ret
      exact ⟨by rfl,aJ⟩
end Go.Proofs.YtbjjaaodfbjkfaaGreatDoor.mN
