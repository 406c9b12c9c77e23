import Derived.Test.YtbjjaaodfbjkfaaGreatDoorQQux7
namespace Go.Proofs.YtbjjaaodfbjkfaaGreatDoor.ow
open Go.RowKit Go.Proofs.YtbjjaaodfbjkfaaGreatDoor.zi Go.Proofs.ak.bY Go.Proofs.ak.dU Go.Proofs.ak.dJ
attribute [local go_sem] jt ju kH kI iw iy jv jw
set_option linter.unusedVariables false
set_option linter.unusedSimpArgs false
def cU.l0:Nat→Int→Int→ByteArray→ByteArray→Bool→Option (Bool)
 | 0,_,_,_,_,_ =>none
 |k + 1,x6,x7,yl,vJ,Eh=>if x7 < x6 then (if 0≤x7 then (if x7 < (yl.size:Int) then (if (bt yl x7) < 32 then (some false) else (if (bt yl x7) > 126 then (some false) else (cU.l0 k x6 (wrap64 (x7 + 1)) yl vJ Eh))) else (none)) else (none)) else (if Eh=true then ((gS.f k yl vJ Eh).bind fun t185=>(if t185=true then ((dH.f k vJ).bind fun t186=>(if t186=true then ((fM.f vJ).bind fun t187=>(some (t187.toList == vJ.toList))) else (some false))) else (some false))) else ((gS.f k yl vJ Eh).bind fun t188=>(if t188=true then ((jP.f k vJ).bind fun t189=>(some t189)) else (some false))))
def cU.f (k:Nat) (bu:ByteArray) (bX:ByteArray) (cK:Bool):Option (Bool):=cU.l0 k (bu.size:Int) 0 bu bX cK
theorem cU.eY:∀ k,(∀ y0 y1 y2 y3 y4,fP (cU.l0 k y0 y1 y2 y3 y4) (cU.l0 (k + 1) y0 y1 y2 y3 y4))
 | 0=>fun _ _ _ _ _ r h=>by simp [cU.l0] at h
 |k + 1=>by
  have nY:=cU.eY k
  ·intro y0 y1 y2 y3 y4
   unfold cU.l0
   repeat' (with_reducible first|exact nY _ _ _ _ _|exact dH.mono _ _|exact jP.mono _ _|exact gS.mono _ _ _ _|exact fP.refl _|refine fP.ite ?_ ?_|refine fP.bind ?_ (fun _ =>?_))
theorem cU.mono:∀ a0 a1 a2 k,fP (cU.f k a0 a1 a2) (cU.f (k + 1) a0 a1 a2):=by
 intro a0 a1 a2 k
 have nY:=cU.eY k
 unfold cU.f
 repeat' (with_reducible exact nY _ _ _ _ _)
def cU.T8:Bool×List (List Nat×List Nat):=(true,[([],[]),([0],[0]),([1,1],[1]),([2],[2]),([3,2],[2,3]),([4,2,2],[2,4]),([2,5],[2,5]),([6,5],[6]),([7],[7]),([8,7],[7,8]),([9,7,7],[7,9]),([7],[7]),([11,7],[7,11]),([10,12,7],[7,10,12]),([7,13],[7,13]),([14,10,0,1,2,3,4,5,6,7,8,9,10,11,12,13,14],[14])])
def cU.B8:List Nat:=[0,1,3,7,15,31,63,127,255,511,1023,255,2303,8191,16383,32767]
theorem cU.ago:qT .any (opsOf Tryz.f143 8)=cU.T8:=by kernel_rfl
theorem cU.Xp:qM cU.T8.2 cU.B8=true:=by kernel_rfl
set_option maxHeartbeats 8000000 in
set_option maxRecDepth 100000 in
theorem cU.calls (k:Nat) (bu:ByteArray) (bX:ByteArray) (cK:Bool) (r:Bool) (w:World) (hG:bB w) (h:cU.f k bu bX cK=some r):
 Calls Tryz.prog 143 #[.agg #[.string bu,.string bX,.bool cK]] w fun e w'=>e= .returned (.bool r)∧Below w.heap.size w w':=by
 have LW:=Tryz.underlying29
 have HB:=ah.mk (Below.refl w.heap.size w)
 have HG:=ah.mk hG
 clear hG
 have H:(cU.l0 k (bu.size:Int) 0 bu bX cK)=some r:=h
 clear h
 have H':=ah.mk H
 clear H
 go_enter Tryz.func143,Tryz.ntmps143
 go_wp2_with (((with_reducible refine bw (N:=1) rfl ?_);refine bA ?hg (N:=1) ?hd (cs:=#[.string bu,.string bX,.bool cK]) (t:=29) ?hr ?_;(case hd=>rfl);(case hg=>rfl);(case hr=>(go_simp;done));intro iP hg w2 bH hb;have cV:=ah.mk (bH);have aFX:=ah.mk ((bG:w.heap.size≤iP));have aFY:=ah.mk ((bG:w.heap.size≤iP));replace HB:=ah.mk (av aI hb);clear hb bH hg;have WY:w2.cell? ⟨iP,0,none⟩=some (.string bu):=(af cV.out 0).trans rfl;have WZ:w2.cell? ⟨iP,1,none⟩=some (.string bX):=(af cV.out 1).trans rfl;have aCU:w2.cell? ⟨iP,2,none⟩=some (.bool cK):=(af cV.out 2).trans rfl;have W4:=aa cV.out 0;have W5:=aa cV.out 1;have aCV:=aa cV.out 2))
 go_loopg [7] k (fun kq v7 w'=>∃ (rS:Int),v7= .int .i64 rS∧ah (cU.l0 kq (bu.size:Int) rS bu bX cK=some r)∧ah (kq≤k)∧ah (w'.heap[iP]? =some (.cells #[.string bu,.string bX,.bool cK] 29 (0,0)))∧ah (Below w.heap.size w w'))
 case atStart=>exact ⟨(0),(by rfl),H',⟨Nat.le_refl _⟩,⟨pX⟩,⟨aI⟩⟩
 case round=>
  clear H'
  obtain ⟨rS,rfl,HA,oI,cV,HB⟩:=hrel
  cases gk with
  |zero=>exact absurd HA.out (by simp [cU.l0])
  |succ k1=>
   have H:=HA.out
   clear HA
   simp only [cU.l0] at H
   by_cases c4:rS < (bu.size:Int)
   ·rw [if_pos c4] at H
    have ng:=decide_eq_true c4
    clear c4
    obtain ⟨c5,H⟩:=lg H
    have qu:=decide_eq_true c5
    clear c5
    obtain ⟨c6,H⟩:=lg H
    have xm:=decide_eq_true c6
    clear c6
    by_cases c8:(bt bu rS) < 32
    ·rw [if_pos c8] at H
     have yB:=decide_eq_true c8
     clear c8
     obtain rfl:=Option.some.inj H
     have BF:wr.cell? ⟨iP,0,none⟩=some (.string bu):=(af cV.out 0).trans rfl
     have BG:wr.cell? ⟨iP,1,none⟩=some (.string bX):=(af cV.out 1).trans rfl
     have Xq:wr.cell? ⟨iP,2,none⟩=some (.bool cK):=(af cV.out 2).trans rfl
     have BH:=aa cV.out 0
     have BI:=aa cV.out 1
     have Xr:=aa cV.out 2
     have p7: 0≤(rS:Int):=of_decide_eq_true cL
     have q7:rS < (bu.size:Int):=of_decide_eq_true cL
     have hx7:=wL bu rS
     replace p7:=eq_true p7
     replace q7:=eq_true q7
     go_wp2
     go_ret
     exact ⟨by rfl,aI⟩
    ·rw [if_neg c8] at H
     have yB:=decide_eq_false c8
     clear c8
     by_cases c11:(bt bu rS) > 126
     ·rw [if_pos c11] at H
      have EX:decide (126 < (bt bu rS))=true:=decide_eq_true c11
      clear c11
      obtain rfl:=Option.some.inj H
      have ya:wr.cell? ⟨iP,0,none⟩=some (.string bu):=(af cV.out 0).trans rfl
      have yc:wr.cell? ⟨iP,1,none⟩=some (.string bX):=(af cV.out 1).trans rfl
      have z7:wr.cell? ⟨iP,2,none⟩=some (.bool cK):=(af cV.out 2).trans rfl
      have yf:=aa cV.out 0
      have yg:=aa cV.out 1
      have z8:=aa cV.out 2
      have p7: 0≤(rS:Int):=of_decide_eq_true cL
      have q7:rS < (bu.size:Int):=of_decide_eq_true cL
      have hx7:=wL bu rS
      replace p7:=eq_true p7
      replace q7:=eq_true q7
      have p10: 0≤(rS:Int):=of_decide_eq_true cL
      have q10:rS < (bu.size:Int):=of_decide_eq_true cL
      have aCW:=wL bu rS
      replace p10:=eq_true p10
      replace q10:=eq_true q10
      go_wp2
      go_ret
      exact ⟨by rfl,aI⟩
     ·rw [if_neg c11] at H
      have EX:decide (126 < (bt bu rS))=false:=decide_eq_false c11
      clear c11
      have H':=ah.mk H
      clear H
      have Z7:wr.cell? ⟨iP,0,none⟩=some (.string bu):=(af cV.out 0).trans rfl
      have Z8:wr.cell? ⟨iP,1,none⟩=some (.string bX):=(af cV.out 1).trans rfl
      have arn:wr.cell? ⟨iP,2,none⟩=some (.bool cK):=(af cV.out 2).trans rfl
      have Z9:=aa cV.out 0
      have aaa:=aa cV.out 1
      have aro:=aa cV.out 2
      have p7: 0≤(rS:Int):=of_decide_eq_true cL
      have q7:rS < (bu.size:Int):=of_decide_eq_true cL
      have hx7:=wL bu rS
      replace p7:=eq_true p7
      replace q7:=eq_true q7
      have p10: 0≤(rS:Int):=of_decide_eq_true cL
      have q10:rS < (bu.size:Int):=of_decide_eq_true cL
      have aCW:=wL bu rS
      replace p10:=eq_true p10
      replace q10:=eq_true q10
      go_wp2
      go_roundg k1
      case measure=>have:=oI.out;omega
      case rel=>exact ⟨(wrap64 (rS + 1)),(by rfl),H',⟨lS⟩,⟨pX⟩,⟨aI⟩⟩
   ·rw [if_neg c4] at H
    have ng:=decide_eq_false c4
    clear c4
    by_cases c14:cK=true
    ·subst c14
     rw [if_pos rfl] at H
     obtain ⟨t185,A15,H⟩:=bd_ H
     by_cases c16:t185=true
     ·subst c16
      rw [if_pos rfl] at H
      obtain ⟨t186,Od,H⟩:=bd_ H
      by_cases c18:t186=true
      ·subst c18
       rw [if_pos rfl] at H
       obtain ⟨t187,A19,H⟩:=bd_ H
       obtain rfl:=Option.some.inj H
       have Ae:wr.cell? ⟨iP,0,none⟩=some (.string bu):=(af cV.out 0).trans rfl
       have Af:wr.cell? ⟨iP,1,none⟩=some (.string bX):=(af cV.out 1).trans rfl
       have Ag:wr.cell? ⟨iP,2,none⟩=some (.bool true):=(af cV.out 2).trans rfl
       have Ah:=aa cV.out 0
       have Ai:=aa cV.out 1
       have Aj:=aa cV.out 2
       try go_wp2
       have jJ:=ah.mk (iR cV.out)
       have jK:=ah.mk (gG HB.out)
       clear cV
       clear HB
       have cV:=jJ
       have HB:=jK
       clear jJ jK
       refine lU (n:=16) (S:=fun w'=>w'.cell? ⟨iP,0,none⟩=some (.string bu)∧w'.cell? ⟨iP,1,none⟩=some (.string bX)∧w'.cell? ⟨iP,2,none⟩=some (.bool true)) (ds:=[]) #[false,false,false,false,false,false,false,false,false,false,false,false,false,false,false,false] au (by rfl) (by rfl) ⟨(af cV.out 0).trans rfl,(af cV.out 1).trans rfl,(af cV.out 2).trans rfl⟩ (fun hHeld=>?_);refine lG cU.ago cU.Xp (fun dL sJ=>?_)
       generalize wr.drew=U2 at cV HB hHeld ⊢
       refine gv (i:=0) (N:=some 25) #[true,false,false,false,false,false,false,false,false,false,false,false,false,false,false,false] rfl rfl (fK dL.out sJ.out au) (fun _ _ _ h=>h) (Or.inl ⟨by rfl,yZ⟩) hHeld rfl ?_
       refine pq (i:=1) (N:=some 26) #[true,true,false,false,false,false,false,false,false,false,false,false,false,false,false,false] rfl rfl (kF dL.out au) bC (fun K hK=>?_)
       refine mH Tryz.func186 au rfl #[.agg #[.string bu,.string bX,.bool true]] (by rfl) rfl rfl dM ?_
       with_reducible refine (gS.calls k1 bu bX true true _ ?bk A15.out).mono ?_
       (case bk=>exact bB.below HG.out aI)
       rintro e Y1 ⟨rfl,hb⟩
       refine ⟨_,rfl,?_⟩
       have jJ:=ah.mk (az pX hb)
       have jK:=ah.mk (av aI hb)
       clear cV
       clear HB
       have cV:=jJ
       have HB:=jK
       clear jJ jK
       refine hK.out _ _ ⟨(af cV.out 0).trans rfl,(af cV.out 1).trans rfl,(af cV.out 2).trans rfl⟩ (fun hHeld=>?_)
       clear hK K
       refine kX (a':=?_) ?_ ?_
       rotate_left
       ·show Act.put _ (some 26) _=_
        simp only [Act.put,List.setIfInBounds_toArray,List.set_cons_zero,List.set_cons_succ,aY,aZ]
        rfl
       refine aQ (i:=2) (N:=some 27) #[true,true,true,false,false,false,false,false,false,false,false,false,false,false,false,false] rfl rfl (br dL.out au) (fun _ _ _ h=>h) (Or.inl ⟨by rfl,cJ⟩) rfl ?_
       refine aQ (i:=3) (N:=some 28) #[true,true,true,true,false,false,false,false,false,false,false,false,false,false,false,false] rfl rfl (br dL.out au) (fun _ _ _ h=>h) (Or.inl ⟨by rfl,cJ⟩) rfl ?_
       refine gv (i:=4) (N:=some 29) #[true,true,true,true,true,false,false,false,false,false,false,false,false,false,false,false] rfl rfl (fK dL.out sJ.out au) (fun _ _ _ h=>h) (Or.inl ⟨by rfl,yZ⟩) hHeld rfl ?_
       refine pq (i:=5) (N:=some 30) #[true,true,true,true,true,true,false,false,false,false,false,false,false,false,false,false] rfl rfl (kF dL.out au) bC (fun K hK=>?_)
       refine mH Tryz.func187 au rfl #[.string bX] (by rfl) rfl rfl dM ?_
       with_reducible refine (dH.calls k1 bX true _ ?bk Od.out).mono ?_
       (case bk=>exact bB.below HG.out aI)
       rintro e sI ⟨rfl,hb⟩
       refine ⟨_,rfl,?_⟩
       have jJ:=ah.mk (az pX hb)
       have jK:=ah.mk (av aI hb)
       clear cV
       clear HB
       have cV:=jJ
       have HB:=jK
       clear jJ jK
       refine hK.out _ _ ⟨(af cV.out 0).trans rfl,(af cV.out 1).trans rfl,(af cV.out 2).trans rfl⟩ (fun hHeld=>?_)
       clear hK K
       refine kX (a':=?_) ?_ ?_
       rotate_left
       ·show Act.put _ (some 30) _=_
        simp only [Act.put,List.setIfInBounds_toArray,List.set_cons_zero,List.set_cons_succ,aY,aZ]
        rfl
       refine aQ (i:=6) (N:=some 31) #[true,true,true,true,true,true,true,false,false,false,false,false,false,false,false,false] rfl rfl (br dL.out au) (fun _ _ _ h=>h) (Or.inl ⟨by rfl,cJ⟩) rfl ?_
       refine aQ (i:=7) (N:=some 32) #[true,true,true,true,true,true,true,true,false,false,false,false,false,false,false,false] rfl rfl (br dL.out au) (fun _ _ _ h=>h) (Or.inl ⟨by rfl,cJ⟩) rfl ?_
       refine aQ (i:=8) (N:=some 33) #[true,true,true,true,true,true,true,true,true,false,false,false,false,false,false,false] rfl rfl (br dL.out au) (fun _ _ _ h=>h) (Or.inl ⟨by rfl,cJ⟩) rfl ?_
       refine aQ (i:=11) (N:=some 36) #[true,true,true,true,true,true,true,true,true,false,false,true,false,false,false,false] rfl rfl (br dL.out au) (fun _ _ _ h=>h) (Or.inl ⟨by rfl,cJ⟩) rfl ?_
       refine gv (i:=9) (N:=some 34) #[true,true,true,true,true,true,true,true,true,true,false,true,false,false,false,false] rfl rfl (fK dL.out sJ.out au) (fun _ _ _ h=>h) (Or.inl ⟨by rfl,yZ⟩) hHeld rfl ?_
       refine gv (i:=12) (N:=some 37) #[true,true,true,true,true,true,true,true,true,true,false,true,true,false,false,false] rfl rfl (fK dL.out sJ.out au) (fun _ _ _ h=>h) (Or.inl ⟨by rfl,yZ⟩) hHeld rfl ?_
       refine pq (i:=10) (N:=some 35) #[true,true,true,true,true,true,true,true,true,true,true,true,true,false,false,false] rfl rfl (kF dL.out au) bC (fun K hK=>?_)
       refine mH Tryz.func139 au rfl #[.string bX] (by rfl) rfl rfl dM ?_
       with_reducible refine (fM.calls bX t187 _ A19.out).mono ?_
       rintro e zk ⟨rfl,hb⟩
       refine ⟨_,rfl,?_⟩
       have jJ:=ah.mk (az pX hb)
       have jK:=ah.mk (av aI hb)
       clear cV
       clear HB
       have cV:=jJ
       have HB:=jK
       clear jJ jK
       refine hK.out _ _ ⟨(af cV.out 0).trans rfl,(af cV.out 1).trans rfl,(af cV.out 2).trans rfl⟩ (fun hHeld=>?_)
       clear hK K
       refine kX (a':=?_) ?_ ?_
       rotate_left
       ·show Act.put _ (some 35) _=_
        simp only [Act.put,List.setIfInBounds_toArray,List.set_cons_zero,List.set_cons_succ,aY,aZ]
        rfl
       refine aQ (i:=13) (N:=some 38) #[true,true,true,true,true,true,true,true,true,true,true,true,true,true,false,false] rfl rfl (br dL.out au) (fun _ _ _ h=>h) (Or.inl ⟨by rfl,cJ⟩) rfl ?_
       refine aQ (i:=14) (N:=some 39) #[true,true,true,true,true,true,true,true,true,true,true,true,true,true,true,false] rfl rfl (br dL.out au) (fun _ _ _ h=>h) (Or.inl ⟨by rfl,cJ⟩) rfl ?_
       refine aQ (i:=15) (N:=some 2) #[true,true,true,true,true,true,true,true,true,true,true,true,true,true,true,true] rfl rfl (br dL.out au) (fun _ _ _ h=>h) (Or.inl ⟨by rfl,cJ⟩) rfl ?_
       refine oU (o7 dL.out au) ?_
       try go_wp2
       go_ret
       exact ⟨by rfl,aI⟩
      ·replace c18:=Bool.eq_false_iff.mpr c18
       subst c18
       rw [if_neg (show ¬ (false=true) by decide)] at H
       obtain rfl:=Option.some.inj H
       have D4:wr.cell? ⟨iP,0,none⟩=some (.string bu):=(af cV.out 0).trans rfl
       have D5:wr.cell? ⟨iP,1,none⟩=some (.string bX):=(af cV.out 1).trans rfl
       have D6:wr.cell? ⟨iP,2,none⟩=some (.bool true):=(af cV.out 2).trans rfl
       have D7:=aa cV.out 0
       have D8:=aa cV.out 1
       have D9:=aa cV.out 2
       try go_wp2
       have jJ:=ah.mk (iR cV.out)
       have jK:=ah.mk (gG HB.out)
       clear cV
       clear HB
       have cV:=jJ
       have HB:=jK
       clear jJ jK
       refine lU (n:=16) (S:=fun w'=>w'.cell? ⟨iP,0,none⟩=some (.string bu)∧w'.cell? ⟨iP,1,none⟩=some (.string bX)∧w'.cell? ⟨iP,2,none⟩=some (.bool true)) (ds:=[]) #[false,false,false,false,false,false,false,false,false,false,false,false,false,false,false,false] au (by rfl) (by rfl) ⟨(af cV.out 0).trans rfl,(af cV.out 1).trans rfl,(af cV.out 2).trans rfl⟩ (fun hHeld=>?_);refine lG cU.ago cU.Xp (fun dL sJ=>?_)
       generalize wr.drew=Nq at cV HB hHeld ⊢
       refine gv (i:=0) (N:=some 25) #[true,false,false,false,false,false,false,false,false,false,false,false,false,false,false,false] rfl rfl (fK dL.out sJ.out au) (fun _ _ _ h=>h) (Or.inl ⟨by rfl,yZ⟩) hHeld rfl ?_
       refine pq (i:=1) (N:=some 26) #[true,true,false,false,false,false,false,false,false,false,false,false,false,false,false,false] rfl rfl (kF dL.out au) bC (fun K hK=>?_)
       refine mH Tryz.func186 au rfl #[.agg #[.string bu,.string bX,.bool true]] (by rfl) rfl rfl dM ?_
       with_reducible refine (gS.calls k1 bu bX true true _ ?bk A15.out).mono ?_
       (case bk=>exact bB.below HG.out aI)
       rintro e U3 ⟨rfl,hb⟩
       refine ⟨_,rfl,?_⟩
       have jJ:=ah.mk (az pX hb)
       have jK:=ah.mk (av aI hb)
       clear cV
       clear HB
       have cV:=jJ
       have HB:=jK
       clear jJ jK
       refine hK.out _ _ ⟨(af cV.out 0).trans rfl,(af cV.out 1).trans rfl,(af cV.out 2).trans rfl⟩ (fun hHeld=>?_)
       clear hK K
       refine kX (a':=?_) ?_ ?_
       rotate_left
       ·show Act.put _ (some 26) _=_
        simp only [Act.put,List.setIfInBounds_toArray,List.set_cons_zero,List.set_cons_succ,aY,aZ]
        rfl
       refine aQ (i:=2) (N:=some 27) #[true,true,true,false,false,false,false,false,false,false,false,false,false,false,false,false] rfl rfl (br dL.out au) (fun _ _ _ h=>h) (Or.inl ⟨by rfl,cJ⟩) rfl ?_
       refine aQ (i:=3) (N:=some 28) #[true,true,true,true,false,false,false,false,false,false,false,false,false,false,false,false] rfl rfl (br dL.out au) (fun _ _ _ h=>h) (Or.inl ⟨by rfl,cJ⟩) rfl ?_
       refine gv (i:=4) (N:=some 29) #[true,true,true,true,true,false,false,false,false,false,false,false,false,false,false,false] rfl rfl (fK dL.out sJ.out au) (fun _ _ _ h=>h) (Or.inl ⟨by rfl,yZ⟩) hHeld rfl ?_
       refine pq (i:=5) (N:=some 30) #[true,true,true,true,true,true,false,false,false,false,false,false,false,false,false,false] rfl rfl (kF dL.out au) bC (fun K hK=>?_)
       refine mH Tryz.func187 au rfl #[.string bX] (by rfl) rfl rfl dM ?_
       with_reducible refine (dH.calls k1 bX false _ ?bk Od.out).mono ?_
       (case bk=>exact bB.below HG.out aI)
       rintro e BK ⟨rfl,hb⟩
       refine ⟨_,rfl,?_⟩
       have jJ:=ah.mk (az pX hb)
       have jK:=ah.mk (av aI hb)
       clear cV
       clear HB
       have cV:=jJ
       have HB:=jK
       clear jJ jK
       refine hK.out _ _ ⟨(af cV.out 0).trans rfl,(af cV.out 1).trans rfl,(af cV.out 2).trans rfl⟩ (fun hHeld=>?_)
       clear hK K
       refine kX (a':=?_) ?_ ?_
       rotate_left
       ·show Act.put _ (some 30) _=_
        simp only [Act.put,List.setIfInBounds_toArray,List.set_cons_zero,List.set_cons_succ,aY,aZ]
        rfl
       refine aQ (i:=6) (N:=some 31) #[true,true,true,true,true,true,true,false,false,false,false,false,false,false,false,false] rfl rfl (br dL.out au) (fun _ _ _ h=>h) (Or.inl ⟨by rfl,cJ⟩) rfl ?_
       refine aQ (i:=7) (N:=some 32) #[true,true,true,true,true,true,true,true,false,false,false,false,false,false,false,false] rfl rfl (br dL.out au) (fun _ _ _ h=>h) (Or.inl ⟨by rfl,cJ⟩) rfl ?_
       refine aQ (i:=8) (N:=some 33) (v:=undef) (a':=?_) #[true,true,true,true,true,true,true,true,true,false,false,false,false,false,false,false] rfl rfl (br dL.out au) (fun _ _ _ h=>h) (Or.inr ⟨by rfl,rfl⟩) ?_ ?_
       rotate_left
       ·simp only [Act.put,List.setIfInBounds_toArray,List.set_cons_zero,List.set_cons_succ,aY,aZ]
        rfl
       refine aQ (i:=9) (N:=some 34) (v:=undef) (a':=?_) #[true,true,true,true,true,true,true,true,true,true,false,false,false,false,false,false] rfl rfl (br dL.out au) (fun _ _ _ h=>h) (Or.inr ⟨by rfl,rfl⟩) ?_ ?_
       rotate_left
       ·simp only [Act.put,List.setIfInBounds_toArray,List.set_cons_zero,List.set_cons_succ,aY,aZ]
        rfl
       refine aQ (i:=10) (N:=some 35) (v:=undef) (a':=?_) #[true,true,true,true,true,true,true,true,true,true,true,false,false,false,false,false] rfl rfl (br dL.out au) (fun _ _ _ h=>h) (Or.inr ⟨by rfl,rfl⟩) ?_ ?_
       rotate_left
       ·simp only [Act.put,List.setIfInBounds_toArray,List.set_cons_zero,List.set_cons_succ,aY,aZ]
        rfl
       refine aQ (i:=11) (N:=some 36) (v:=undef) (a':=?_) #[true,true,true,true,true,true,true,true,true,true,true,true,false,false,false,false] rfl rfl (br dL.out au) (fun _ _ _ h=>h) (Or.inr ⟨by rfl,rfl⟩) ?_ ?_
       rotate_left
       ·simp only [Act.put,List.setIfInBounds_toArray,List.set_cons_zero,List.set_cons_succ,aY,aZ]
        rfl
       refine aQ (i:=12) (N:=some 37) (v:=undef) (a':=?_) #[true,true,true,true,true,true,true,true,true,true,true,true,true,false,false,false] rfl rfl (br dL.out au) (fun _ _ _ h=>h) (Or.inr ⟨by rfl,rfl⟩) ?_ ?_
       rotate_left
       ·simp only [Act.put,List.setIfInBounds_toArray,List.set_cons_zero,List.set_cons_succ,aY,aZ]
        rfl
       refine aQ (i:=13) (N:=some 38) (v:=undef) (a':=?_) #[true,true,true,true,true,true,true,true,true,true,true,true,true,true,false,false] rfl rfl (br dL.out au) (fun _ _ _ h=>h) (Or.inr ⟨by rfl,rfl⟩) ?_ ?_
       rotate_left
       ·simp only [Act.put,List.setIfInBounds_toArray,List.set_cons_zero,List.set_cons_succ,aY,aZ]
        rfl
       refine aQ (i:=14) (N:=some 39) #[true,true,true,true,true,true,true,true,true,true,true,true,true,true,true,false] rfl rfl (br dL.out au) (fun _ _ _ h=>h) (Or.inl ⟨by rfl,cJ⟩) rfl ?_
       refine aQ (i:=15) (N:=some 2) #[true,true,true,true,true,true,true,true,true,true,true,true,true,true,true,true] rfl rfl (br dL.out au) (fun _ _ _ h=>h) (Or.inl ⟨by rfl,cJ⟩) rfl ?_
       refine oU (o7 dL.out au) ?_
       try go_wp2
       go_ret
       exact ⟨by rfl,aI⟩
     ·replace c16:=Bool.eq_false_iff.mpr c16
      subst c16
      rw [if_neg (show ¬ (false=true) by decide)] at H
      obtain rfl:=Option.some.inj H
      have aam:wr.cell? ⟨iP,0,none⟩=some (.string bu):=(af cV.out 0).trans rfl
      have aan:wr.cell? ⟨iP,1,none⟩=some (.string bX):=(af cV.out 1).trans rfl
      have aao:wr.cell? ⟨iP,2,none⟩=some (.bool true):=(af cV.out 2).trans rfl
      have aap:=aa cV.out 0
      have aaq:=aa cV.out 1
      have aar:=aa cV.out 2
      try go_wp2
      have jJ:=ah.mk (iR cV.out)
      have jK:=ah.mk (gG HB.out)
      clear cV
      clear HB
      have cV:=jJ
      have HB:=jK
      clear jJ jK
      refine lU (n:=16) (S:=fun w'=>w'.cell? ⟨iP,0,none⟩=some (.string bu)∧w'.cell? ⟨iP,1,none⟩=some (.string bX)∧w'.cell? ⟨iP,2,none⟩=some (.bool true)) (ds:=[]) #[false,false,false,false,false,false,false,false,false,false,false,false,false,false,false,false] au (by rfl) (by rfl) ⟨(af cV.out 0).trans rfl,(af cV.out 1).trans rfl,(af cV.out 2).trans rfl⟩ (fun hHeld=>?_);refine lG cU.ago cU.Xp (fun dL sJ=>?_)
      generalize wr.drew=w30 at cV HB hHeld ⊢
      refine gv (i:=0) (N:=some 25) #[true,false,false,false,false,false,false,false,false,false,false,false,false,false,false,false] rfl rfl (fK dL.out sJ.out au) (fun _ _ _ h=>h) (Or.inl ⟨by rfl,yZ⟩) hHeld rfl ?_
      refine pq (i:=1) (N:=some 26) #[true,true,false,false,false,false,false,false,false,false,false,false,false,false,false,false] rfl rfl (kF dL.out au) bC (fun K hK=>?_)
      refine mH Tryz.func186 au rfl #[.agg #[.string bu,.string bX,.bool true]] (by rfl) rfl rfl dM ?_
      with_reducible refine (gS.calls k1 bu bX true false _ ?bk A15.out).mono ?_
      (case bk=>exact bB.below HG.out aI)
      rintro e Xt ⟨rfl,hb⟩
      refine ⟨_,rfl,?_⟩
      have jJ:=ah.mk (az pX hb)
      have jK:=ah.mk (av aI hb)
      clear cV
      clear HB
      have cV:=jJ
      have HB:=jK
      clear jJ jK
      refine hK.out _ _ ⟨(af cV.out 0).trans rfl,(af cV.out 1).trans rfl,(af cV.out 2).trans rfl⟩ (fun hHeld=>?_)
      clear hK K
      refine kX (a':=?_) ?_ ?_
      rotate_left
      ·show Act.put _ (some 26) _=_
       simp only [Act.put,List.setIfInBounds_toArray,List.set_cons_zero,List.set_cons_succ,aY,aZ]
       rfl
      refine aQ (i:=2) (N:=some 27) #[true,true,true,false,false,false,false,false,false,false,false,false,false,false,false,false] rfl rfl (br dL.out au) (fun _ _ _ h=>h) (Or.inl ⟨by rfl,cJ⟩) rfl ?_
      refine aQ (i:=3) (N:=some 28) (v:=undef) (a':=?_) #[true,true,true,true,false,false,false,false,false,false,false,false,false,false,false,false] rfl rfl (br dL.out au) (fun _ _ _ h=>h) (Or.inr ⟨by rfl,rfl⟩) ?_ ?_
      rotate_left
      ·simp only [Act.put,List.setIfInBounds_toArray,List.set_cons_zero,List.set_cons_succ,aY,aZ]
       rfl
      refine aQ (i:=4) (N:=some 29) (v:=undef) (a':=?_) #[true,true,true,true,true,false,false,false,false,false,false,false,false,false,false,false] rfl rfl (br dL.out au) (fun _ _ _ h=>h) (Or.inr ⟨by rfl,rfl⟩) ?_ ?_
      rotate_left
      ·simp only [Act.put,List.setIfInBounds_toArray,List.set_cons_zero,List.set_cons_succ,aY,aZ]
       rfl
      refine aQ (i:=5) (N:=some 30) (v:=undef) (a':=?_) #[true,true,true,true,true,true,false,false,false,false,false,false,false,false,false,false] rfl rfl (br dL.out au) (fun _ _ _ h=>h) (Or.inr ⟨by rfl,rfl⟩) ?_ ?_
      rotate_left
      ·simp only [Act.put,List.setIfInBounds_toArray,List.set_cons_zero,List.set_cons_succ,aY,aZ]
       rfl
      refine aQ (i:=6) (N:=some 31) #[true,true,true,true,true,true,true,false,false,false,false,false,false,false,false,false] rfl rfl (br dL.out au) (fun _ _ _ h=>h) (Or.inl ⟨by rfl,cJ⟩) rfl ?_
      refine aQ (i:=7) (N:=some 32) #[true,true,true,true,true,true,true,true,false,false,false,false,false,false,false,false] rfl rfl (br dL.out au) (fun _ _ _ h=>h) (Or.inl ⟨by rfl,cJ⟩) rfl ?_
      refine aQ (i:=8) (N:=some 33) (v:=undef) (a':=?_) #[true,true,true,true,true,true,true,true,true,false,false,false,false,false,false,false] rfl rfl (br dL.out au) (fun _ _ _ h=>h) (Or.inr ⟨by rfl,rfl⟩) ?_ ?_
      rotate_left
      ·simp only [Act.put,List.setIfInBounds_toArray,List.set_cons_zero,List.set_cons_succ,aY,aZ]
       rfl
      refine aQ (i:=9) (N:=some 34) (v:=undef) (a':=?_) #[true,true,true,true,true,true,true,true,true,true,false,false,false,false,false,false] rfl rfl (br dL.out au) (fun _ _ _ h=>h) (Or.inr ⟨by rfl,rfl⟩) ?_ ?_
      rotate_left
      ·simp only [Act.put,List.setIfInBounds_toArray,List.set_cons_zero,List.set_cons_succ,aY,aZ]
       rfl
      refine aQ (i:=10) (N:=some 35) (v:=undef) (a':=?_) #[true,true,true,true,true,true,true,true,true,true,true,false,false,false,false,false] rfl rfl (br dL.out au) (fun _ _ _ h=>h) (Or.inr ⟨by rfl,rfl⟩) ?_ ?_
      rotate_left
      ·simp only [Act.put,List.setIfInBounds_toArray,List.set_cons_zero,List.set_cons_succ,aY,aZ]
       rfl
      refine aQ (i:=11) (N:=some 36) (v:=undef) (a':=?_) #[true,true,true,true,true,true,true,true,true,true,true,true,false,false,false,false] rfl rfl (br dL.out au) (fun _ _ _ h=>h) (Or.inr ⟨by rfl,rfl⟩) ?_ ?_
      rotate_left
      ·simp only [Act.put,List.setIfInBounds_toArray,List.set_cons_zero,List.set_cons_succ,aY,aZ]
       rfl
      refine aQ (i:=12) (N:=some 37) (v:=undef) (a':=?_) #[true,true,true,true,true,true,true,true,true,true,true,true,true,false,false,false] rfl rfl (br dL.out au) (fun _ _ _ h=>h) (Or.inr ⟨by rfl,rfl⟩) ?_ ?_
      rotate_left
      ·simp only [Act.put,List.setIfInBounds_toArray,List.set_cons_zero,List.set_cons_succ,aY,aZ]
       rfl
      refine aQ (i:=13) (N:=some 38) (v:=undef) (a':=?_) #[true,true,true,true,true,true,true,true,true,true,true,true,true,true,false,false] rfl rfl (br dL.out au) (fun _ _ _ h=>h) (Or.inr ⟨by rfl,rfl⟩) ?_ ?_
      rotate_left
      ·simp only [Act.put,List.setIfInBounds_toArray,List.set_cons_zero,List.set_cons_succ,aY,aZ]
       rfl
      refine aQ (i:=14) (N:=some 39) #[true,true,true,true,true,true,true,true,true,true,true,true,true,true,true,false] rfl rfl (br dL.out au) (fun _ _ _ h=>h) (Or.inl ⟨by rfl,cJ⟩) rfl ?_
      refine aQ (i:=15) (N:=some 2) #[true,true,true,true,true,true,true,true,true,true,true,true,true,true,true,true] rfl rfl (br dL.out au) (fun _ _ _ h=>h) (Or.inl ⟨by rfl,cJ⟩) rfl ?_
      refine oU (o7 dL.out au) ?_
      try go_wp2
      go_ret
      exact ⟨by rfl,aI⟩
    ·replace c14:=Bool.eq_false_iff.mpr c14
     subst c14
     rw [if_neg (show ¬ (false=true) by decide)] at H
     obtain ⟨t188,A32,H⟩:=bd_ H
     by_cases c33:t188=true
     ·subst c33
      rw [if_pos rfl] at H
      obtain ⟨t189,A34,H⟩:=bd_ H
      obtain rfl:=Option.some.inj H
      have aas:wr.cell? ⟨iP,0,none⟩=some (.string bu):=(af cV.out 0).trans rfl
      have aat:wr.cell? ⟨iP,1,none⟩=some (.string bX):=(af cV.out 1).trans rfl
      have aau:wr.cell? ⟨iP,2,none⟩=some (.bool false):=(af cV.out 2).trans rfl
      have aav:=aa cV.out 0
      have aaw:=aa cV.out 1
      have aax:=aa cV.out 2
      go_wp2_with (first|((with_reducible refine bE (f:=186) rfl ?_);refine dg (some 41) rfl rfl Tryz.func186 au rfl #[.agg #[.string bu,.string bX,.bool false]] rfl dM ?_;(with_reducible refine (gS.calls k1 bu bX false true _ ?bk A32.out).mono ?_);(case bk=>exact bB.below HG.out aI);rintro e w36 ⟨rfl,hb⟩;refine ⟨_,rfl,?_⟩;replace cV:=ah.mk (az pX hb);replace HB:=ah.mk (av aI hb);(try clear hb);have Js:w36.cell? ⟨iP,0,none⟩=some (.string bu):=(af cV.out 0).trans rfl;have Jt:w36.cell? ⟨iP,1,none⟩=some (.string bX):=(af cV.out 1).trans rfl;have Ju:w36.cell? ⟨iP,2,none⟩=some (.bool false):=(af cV.out 2).trans rfl;have Jv:=aa cV.out 0;have Jw:=aa cV.out 1;have Jx:=aa cV.out 2)|(go_at_call 145;(with_reducible refine (jP.calls k1 bX t189 _ ?bk A34.out).mono ?_);(case bk=>exact bB.below HG.out aI);rintro e uf ⟨rfl,hb⟩;replace cV:=ah.mk (az pX hb);replace HB:=ah.mk (av aI hb);(try clear hb)))
      go_ret
      exact ⟨by rfl,aI⟩
     ·replace c33:=Bool.eq_false_iff.mpr c33
      subst c33
      rw [if_neg (show ¬ (false=true) by decide)] at H
      obtain rfl:=Option.some.inj H
      have Rf:wr.cell? ⟨iP,0,none⟩=some (.string bu):=(af cV.out 0).trans rfl
      have Rg:wr.cell? ⟨iP,1,none⟩=some (.string bX):=(af cV.out 1).trans rfl
      have Rh:wr.cell? ⟨iP,2,none⟩=some (.bool false):=(af cV.out 2).trans rfl
      have Ri:=aa cV.out 0
      have Rj:=aa cV.out 1
      have Rk:=aa cV.out 2
      go_wp2_with (((with_reducible refine bE (f:=186) rfl ?_);refine dg (some 41) rfl rfl Tryz.func186 au rfl #[.agg #[.string bu,.string bX,.bool false]] rfl dM ?_;(with_reducible refine (gS.calls k1 bu bX false false _ ?bk A32.out).mono ?_);(case bk=>exact bB.below HG.out aI);rintro e Gi ⟨rfl,hb⟩;refine ⟨_,rfl,?_⟩;replace cV:=ah.mk (az pX hb);replace HB:=ah.mk (av aI hb);(try clear hb)))
      go_ret
      exact ⟨by rfl,aI⟩
end Go.Proofs.YtbjjaaodfbjkfaaGreatDoor.ow
