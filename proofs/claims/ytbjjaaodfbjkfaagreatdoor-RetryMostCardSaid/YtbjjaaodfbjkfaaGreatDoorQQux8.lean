import Derived.Test.YtbjjaaodfbjkfaaGreatDoorQQux7
namespace Go.Proofs.YtbjjaaodfbjkfaaGreatDoor.qb
open Go.RowKit Go.Proofs.YtbjjaaodfbjkfaaGreatDoor.xI Go.Proofs.aj.bQ Go.Proofs.aj.dX Go.Proofs.aj.dJ
attribute [local go_sem] jT jU lF lG iX iY jV jW
set_option linter.unusedVariables false
set_option linter.unusedSimpArgs false
def cL.l0:Nat→Int→Int→ByteArray→ByteArray→Bool→Option (Bool)
 | 0,_,_,_,_,_ =>none
 |k + 1,x6,x7,wk,tZ,AH=>if x7 < x6 then (if 0≤x7 then (if x7 < (wk.size:Int) then (if (bt wk x7) < 32 then (some false) else (if (bt wk x7) > 126 then (some false) else (cL.l0 k x6 (wrap64 (x7 + 1)) wk tZ AH))) else (none)) else (none)) else (if AH=true then ((gL.f k wk tZ AH).bind fun t202=>(if t202=true then ((dx.f k tZ).bind fun t203=>(if t203=true then ((gJ.f tZ).bind fun t204=>(some (t204.toList == tZ.toList))) else (some false))) else (some false))) else ((gL.f k wk tZ AH).bind fun t205=>(if t205=true then ((jO.f k tZ).bind fun t206=>(some t206)) else (some false))))
def cL.f (k:Nat) (bB:ByteArray) (b7:ByteArray) (cD:Bool):Option (Bool):=cL.l0 k (bB.size:Int) 0 bB b7 cD
theorem cL.ij:∀ k,(∀ y0 y1 y2 y3 y4,gB (cL.l0 k y0 y1 y2 y3 y4) (cL.l0 (k + 1) y0 y1 y2 y3 y4))
 | 0=>fun _ _ _ _ _ r h=>by simp [cL.l0] at h
 |k + 1=>by
  have sG:=cL.ij k
  ·intro y0 y1 y2 y3 y4
   unfold cL.l0
   repeat' (with_reducible first|exact sG _ _ _ _ _|exact dx.mono _ _|exact jO.mono _ _|exact gL.mono _ _ _ _|exact gB.refl _|refine gB.ite ?_ ?_|refine gB.bind ?_ (fun _ =>?_))
theorem cL.mono:∀ a0 a1 a2 k,gB (cL.f k a0 a1 a2) (cL.f (k + 1) a0 a1 a2):=by
 intro a0 a1 a2 k
 have sG:=cL.ij k
 unfold cL.f
 repeat' (with_reducible exact sG _ _ _ _ _)
def cL.T8:Bool×List (List Nat×List Nat):=(true,[([],[]),([0],[0]),([1,1],[1]),([2],[2]),([3,2],[2,3]),([4,2,2],[2,4]),([2,5],[2,5]),([6,5],[6]),([7],[7]),([8,7],[7,8]),([9,7,7],[7,9]),([7],[7]),([11,7],[7,11]),([10,12,7],[7,10,12]),([7,13],[7,13]),([14,10,0,1,2,3,4,5,6,7,8,9,10,11,12,13,14],[14])])
def cL.B8:List Nat:=[0,1,3,7,15,31,63,127,255,511,1023,255,2303,8191,16383,32767]
theorem cL.aea:pO .any (opsOf Tryz.f143 8)=cL.T8:=by kernel_rfl
theorem cL.Sy:ql cL.T8.2 cL.B8=true:=by kernel_rfl
set_option maxHeartbeats 8000000 in
set_option maxRecDepth 100000 in
theorem cL.calls (k:Nat) (bB:ByteArray) (b7:ByteArray) (cD:Bool) (r:Bool) (w:World) (hG:bp w) (h:cL.f k bB b7 cD=some r):
 Calls Tryz.prog 143 #[.agg #[.string bB,.string b7,.bool cD]] w fun e w'=>e= .returned (.bool r)∧Below w.heap.size w w':=by
 have Q3:=Tryz.underlying29
 have HB:=ah.mk (Below.refl w.heap.size w)
 have HG:=ah.mk hG
 clear hG
 have H:(cL.l0 k (bB.size:Int) 0 bB b7 cD)=some r:=h
 clear h
 have H':=ah.mk H
 clear H
 go_enter Tryz.func143,Tryz.ntmps143
 go_wp2_with (((with_reducible refine bI (N:=1) rfl ?_);refine bR ?hg (N:=1) ?hd (cs:=#[.string bB,.string b7,.bool cD]) (t:=29) ?hr ?_;(case hd=>rfl);(case hg=>rfl);(case hr=>(go_simp;done));intro iy hg w2 b9 hb;have cF:=ah.mk (b9);have aGL:=ah.mk ((bZ:w.heap.size≤iy));have aGM:=ah.mk ((bZ:w.heap.size≤iy));replace HB:=ah.mk (aA aD hb);clear hb b9 hg;have RQ:w2.cell? ⟨iy,0,none⟩=some (.string bB):=(af cF.out 0).trans rfl;have RR:w2.cell? ⟨iy,1,none⟩=some (.string b7):=(af cF.out 1).trans rfl;have aCp:w2.cell? ⟨iy,2,none⟩=some (.bool cD):=(af cF.out 2).trans rfl;have RS:=aa cF.out 0;have RT:=aa cF.out 1;have aCq:=aa cF.out 2))
 go_loopg [7] k (fun kq v7 w'=>∃ (qq:Int),v7= .int .i64 qq∧ah (cL.l0 kq (bB.size:Int) qq bB b7 cD=some r)∧ah (kq≤k)∧ah (w'.heap[iy]? =some (.cells #[.string bB,.string b7,.bool cD] 29 (0,0)))∧ah (Below w.heap.size w w'))
 case atStart=>exact ⟨(0),(by rfl),H',⟨Nat.le_refl _⟩,⟨ow⟩,⟨aD⟩⟩
 case round=>
  clear H'
  obtain ⟨qq,rfl,HA,sw,cF,HB⟩:=hrel
  cases gk with
  |zero=>exact absurd HA.out (by simp [cL.l0])
  |succ k1=>
   have H:=HA.out
   clear HA
   simp only [cL.l0] at H
   by_cases c4:qq < (bB.size:Int)
   ·rw [if_pos c4] at H
    have oU:=decide_eq_true c4
    clear c4
    obtain ⟨c5,H⟩:=ld H
    have uA:=decide_eq_true c5
    clear c5
    obtain ⟨c6,H⟩:=ld H
    have Cm:=decide_eq_true c6
    clear c6
    by_cases c8:(bt bB qq) < 32
    ·rw [if_pos c8] at H
     have Cl:=decide_eq_true c8
     clear c8
     obtain rfl:=Option.some.inj H
     have Fm:wr.cell? ⟨iy,0,none⟩=some (.string bB):=(af cF.out 0).trans rfl
     have Fp:wr.cell? ⟨iy,1,none⟩=some (.string b7):=(af cF.out 1).trans rfl
     have aeb:wr.cell? ⟨iy,2,none⟩=some (.bool cD):=(af cF.out 2).trans rfl
     have Fq:=aa cF.out 0
     have Fu:=aa cF.out 1
     have aec:=aa cF.out 2
     have p7: 0≤(qq:Int):=of_decide_eq_true cP
     have q7:qq < (bB.size:Int):=of_decide_eq_true cP
     have hx7:=uo bB qq
     replace p7:=eq_true p7
     replace q7:=eq_true q7
     go_wp2
     go_ret
     exact ⟨by rfl,aD⟩
    ·rw [if_neg c8] at H
     have Cl:=decide_eq_false c8
     clear c8
     by_cases c11:(bt bB qq) > 126
     ·rw [if_pos c11] at H
      have xN:decide (126 < (bt bB qq))=true:=decide_eq_true c11
      clear c11
      obtain rfl:=Option.some.inj H
      have xW:wr.cell? ⟨iy,0,none⟩=some (.string bB):=(af cF.out 0).trans rfl
      have xX:wr.cell? ⟨iy,1,none⟩=some (.string b7):=(af cF.out 1).trans rfl
      have AA:wr.cell? ⟨iy,2,none⟩=some (.bool cD):=(af cF.out 2).trans rfl
      have xY:=aa cF.out 0
      have xZ:=aa cF.out 1
      have AB:=aa cF.out 2
      have p7: 0≤(qq:Int):=of_decide_eq_true cP
      have q7:qq < (bB.size:Int):=of_decide_eq_true cP
      have hx7:=uo bB qq
      replace p7:=eq_true p7
      replace q7:=eq_true q7
      have p10: 0≤(qq:Int):=of_decide_eq_true cP
      have q10:qq < (bB.size:Int):=of_decide_eq_true cP
      have aCr:=uo bB qq
      replace p10:=eq_true p10
      replace q10:=eq_true q10
      go_wp2
      go_ret
      exact ⟨by rfl,aD⟩
     ·rw [if_neg c11] at H
      have xN:decide (126 < (bt bB qq))=false:=decide_eq_false c11
      clear c11
      have H':=ah.mk H
      clear H
      have ZI:wr.cell? ⟨iy,0,none⟩=some (.string bB):=(af cF.out 0).trans rfl
      have ZJ:wr.cell? ⟨iy,1,none⟩=some (.string b7):=(af cF.out 1).trans rfl
      have auY:wr.cell? ⟨iy,2,none⟩=some (.bool cD):=(af cF.out 2).trans rfl
      have ZK:=aa cF.out 0
      have ZL:=aa cF.out 1
      have auZ:=aa cF.out 2
      have p7: 0≤(qq:Int):=of_decide_eq_true cP
      have q7:qq < (bB.size:Int):=of_decide_eq_true cP
      have hx7:=uo bB qq
      replace p7:=eq_true p7
      replace q7:=eq_true q7
      have p10: 0≤(qq:Int):=of_decide_eq_true cP
      have q10:qq < (bB.size:Int):=of_decide_eq_true cP
      have aCr:=uo bB qq
      replace p10:=eq_true p10
      replace q10:=eq_true q10
      go_wp2
      go_roundg k1
      case measure=>have:=sw.out;omega
      case rel=>exact ⟨(wrap64 (qq + 1)),(by rfl),H',⟨lA⟩,⟨ow⟩,⟨aD⟩⟩
   ·rw [if_neg c4] at H
    have oU:=decide_eq_false c4
    clear c4
    by_cases c14:cD=true
    ·subst c14
     rw [if_pos rfl] at H
     obtain ⟨t202,A15,H⟩:=bd_ H
     by_cases c16:t202=true
     ·subst c16
      rw [if_pos rfl] at H
      obtain ⟨t203,PF,H⟩:=bd_ H
      by_cases c18:t203=true
      ·subst c18
       rw [if_pos rfl] at H
       obtain ⟨t204,A19,H⟩:=bd_ H
       obtain rfl:=Option.some.inj H
       have LP:wr.cell? ⟨iy,0,none⟩=some (.string bB):=(af cF.out 0).trans rfl
       have LQ:wr.cell? ⟨iy,1,none⟩=some (.string b7):=(af cF.out 1).trans rfl
       have LR:wr.cell? ⟨iy,2,none⟩=some (.bool true):=(af cF.out 2).trans rfl
       have LS:=aa cF.out 0
       have LU:=aa cF.out 1
       have LV:=aa cF.out 2
       try go_wp2
       have jF:=ah.mk (ng cF.out)
       have jG:=ah.mk (jI HB.out)
       clear cF
       clear HB
       have cF:=jF
       have HB:=jG
       clear jF jG
       refine uN (n:=16) (S:=fun w'=>w'.cell? ⟨iy,0,none⟩=some (.string bB)∧w'.cell? ⟨iy,1,none⟩=some (.string b7)∧w'.cell? ⟨iy,2,none⟩=some (.bool true)) (ds:=[]) #[false,false,false,false,false,false,false,false,false,false,false,false,false,false,false,false] aR (by rfl) (by rfl) ⟨(af cF.out 0).trans rfl,(af cF.out 1).trans rfl,(af cF.out 2).trans rfl⟩ (fun hHeld=>?_);refine pz cL.aea cL.Sy (fun iG Cs=>?_)
       generalize wr.drew=Pn at cF HB hHeld ⊢
       refine nL (i:=0) (N:=some 25) #[true,false,false,false,false,false,false,false,false,false,false,false,false,false,false,false] rfl rfl (jS iG.out Cs.out aR) (fun _ _ _ h=>h) (Or.inl ⟨by rfl,wP⟩) hHeld rfl ?_
       refine rW (i:=1) (N:=some 26) #[true,true,false,false,false,false,false,false,false,false,false,false,false,false,false,false] rfl rfl (ko iG.out aR) bE (fun K hK=>?_)
       refine pN Tryz.func186 aR rfl #[.agg #[.string bB,.string b7,.bool true]] (by rfl) rfl rfl dc ?_
       with_reducible refine (gL.calls k1 bB b7 true true _ ?aX A15.out).mono ?_
       (case aX=>exact bp.below HG.out aD)
       rintro e zR ⟨rfl,hb⟩
       refine ⟨_,rfl,?_⟩
       have jF:=ah.mk (aC ow hb)
       have jG:=ah.mk (aA aD hb)
       clear cF
       clear HB
       have cF:=jF
       have HB:=jG
       clear jF jG
       refine hK.out _ _ ⟨(af cF.out 0).trans rfl,(af cF.out 1).trans rfl,(af cF.out 2).trans rfl⟩ (fun hHeld=>?_)
       clear hK K
       refine kI (a':=?_) ?_ ?_
       rotate_left
       ·show Act.put _ (some 26) _=_
        simp only [Act.put,List.setIfInBounds_toArray,List.set_cons_zero,List.set_cons_succ,fU,gj]
        rfl
       refine dS (i:=2) (N:=some 27) #[true,true,true,false,false,false,false,false,false,false,false,false,false,false,false,false] rfl rfl (cY iG.out aR) (fun _ _ _ h=>h) (Or.inl ⟨by rfl,ez⟩) rfl ?_
       refine dS (i:=3) (N:=some 28) #[true,true,true,true,false,false,false,false,false,false,false,false,false,false,false,false] rfl rfl (cY iG.out aR) (fun _ _ _ h=>h) (Or.inl ⟨by rfl,ez⟩) rfl ?_
       refine nL (i:=4) (N:=some 29) #[true,true,true,true,true,false,false,false,false,false,false,false,false,false,false,false] rfl rfl (jS iG.out Cs.out aR) (fun _ _ _ h=>h) (Or.inl ⟨by rfl,wP⟩) hHeld rfl ?_
       refine rW (i:=5) (N:=some 30) #[true,true,true,true,true,true,false,false,false,false,false,false,false,false,false,false] rfl rfl (ko iG.out aR) bE (fun K hK=>?_)
       refine pN Tryz.func187 aR rfl #[.string b7] (by rfl) rfl rfl dc ?_
       with_reducible refine (dx.calls k1 b7 true _ ?aX PF.out).mono ?_
       (case aX=>exact bp.below HG.out aD)
       rintro e Cc ⟨rfl,hb⟩
       refine ⟨_,rfl,?_⟩
       have jF:=ah.mk (aC ow hb)
       have jG:=ah.mk (aA aD hb)
       clear cF
       clear HB
       have cF:=jF
       have HB:=jG
       clear jF jG
       refine hK.out _ _ ⟨(af cF.out 0).trans rfl,(af cF.out 1).trans rfl,(af cF.out 2).trans rfl⟩ (fun hHeld=>?_)
       clear hK K
       refine kI (a':=?_) ?_ ?_
       rotate_left
       ·show Act.put _ (some 30) _=_
        simp only [Act.put,List.setIfInBounds_toArray,List.set_cons_zero,List.set_cons_succ,fU,gj]
        rfl
       refine dS (i:=6) (N:=some 31) #[true,true,true,true,true,true,true,false,false,false,false,false,false,false,false,false] rfl rfl (cY iG.out aR) (fun _ _ _ h=>h) (Or.inl ⟨by rfl,ez⟩) rfl ?_
       refine dS (i:=7) (N:=some 32) #[true,true,true,true,true,true,true,true,false,false,false,false,false,false,false,false] rfl rfl (cY iG.out aR) (fun _ _ _ h=>h) (Or.inl ⟨by rfl,ez⟩) rfl ?_
       refine dS (i:=8) (N:=some 33) #[true,true,true,true,true,true,true,true,true,false,false,false,false,false,false,false] rfl rfl (cY iG.out aR) (fun _ _ _ h=>h) (Or.inl ⟨by rfl,ez⟩) rfl ?_
       refine dS (i:=11) (N:=some 36) #[true,true,true,true,true,true,true,true,true,false,false,true,false,false,false,false] rfl rfl (cY iG.out aR) (fun _ _ _ h=>h) (Or.inl ⟨by rfl,ez⟩) rfl ?_
       refine nL (i:=9) (N:=some 34) #[true,true,true,true,true,true,true,true,true,true,false,true,false,false,false,false] rfl rfl (jS iG.out Cs.out aR) (fun _ _ _ h=>h) (Or.inl ⟨by rfl,wP⟩) hHeld rfl ?_
       refine nL (i:=12) (N:=some 37) #[true,true,true,true,true,true,true,true,true,true,false,true,true,false,false,false] rfl rfl (jS iG.out Cs.out aR) (fun _ _ _ h=>h) (Or.inl ⟨by rfl,wP⟩) hHeld rfl ?_
       refine rW (i:=10) (N:=some 35) #[true,true,true,true,true,true,true,true,true,true,true,true,true,false,false,false] rfl rfl (ko iG.out aR) bE (fun K hK=>?_)
       refine pN Tryz.func139 aR rfl #[.string b7] (by rfl) rfl rfl dc ?_
       with_reducible refine (gJ.calls b7 t204 _ A19.out).mono ?_
       rintro e pM ⟨rfl,hb⟩
       refine ⟨_,rfl,?_⟩
       have jF:=ah.mk (aC ow hb)
       have jG:=ah.mk (aA aD hb)
       clear cF
       clear HB
       have cF:=jF
       have HB:=jG
       clear jF jG
       refine hK.out _ _ ⟨(af cF.out 0).trans rfl,(af cF.out 1).trans rfl,(af cF.out 2).trans rfl⟩ (fun hHeld=>?_)
       clear hK K
       refine kI (a':=?_) ?_ ?_
       rotate_left
       ·show Act.put _ (some 35) _=_
        simp only [Act.put,List.setIfInBounds_toArray,List.set_cons_zero,List.set_cons_succ,fU,gj]
        rfl
       refine dS (i:=13) (N:=some 38) #[true,true,true,true,true,true,true,true,true,true,true,true,true,true,false,false] rfl rfl (cY iG.out aR) (fun _ _ _ h=>h) (Or.inl ⟨by rfl,ez⟩) rfl ?_
       refine dS (i:=14) (N:=some 39) #[true,true,true,true,true,true,true,true,true,true,true,true,true,true,true,false] rfl rfl (cY iG.out aR) (fun _ _ _ h=>h) (Or.inl ⟨by rfl,ez⟩) rfl ?_
       refine dS (i:=15) (N:=some 2) #[true,true,true,true,true,true,true,true,true,true,true,true,true,true,true,true] rfl rfl (cY iG.out aR) (fun _ _ _ h=>h) (Or.inl ⟨by rfl,ez⟩) rfl ?_
       refine zO (tE iG.out aR) ?_
       try go_wp2
       go_ret
       exact ⟨by rfl,aD⟩
      ·replace c18:=Bool.eq_false_iff.mpr c18
       subst c18
       rw [if_neg (show ¬ (false=true) by decide)] at H
       obtain rfl:=Option.some.inj H
       have Ak:wr.cell? ⟨iy,0,none⟩=some (.string bB):=(af cF.out 0).trans rfl
       have Al:wr.cell? ⟨iy,1,none⟩=some (.string b7):=(af cF.out 1).trans rfl
       have Am:wr.cell? ⟨iy,2,none⟩=some (.bool true):=(af cF.out 2).trans rfl
       have Ao:=aa cF.out 0
       have Ap:=aa cF.out 1
       have Aq:=aa cF.out 2
       try go_wp2
       have jF:=ah.mk (ng cF.out)
       have jG:=ah.mk (jI HB.out)
       clear cF
       clear HB
       have cF:=jF
       have HB:=jG
       clear jF jG
       refine uN (n:=16) (S:=fun w'=>w'.cell? ⟨iy,0,none⟩=some (.string bB)∧w'.cell? ⟨iy,1,none⟩=some (.string b7)∧w'.cell? ⟨iy,2,none⟩=some (.bool true)) (ds:=[]) #[false,false,false,false,false,false,false,false,false,false,false,false,false,false,false,false] aR (by rfl) (by rfl) ⟨(af cF.out 0).trans rfl,(af cF.out 1).trans rfl,(af cF.out 2).trans rfl⟩ (fun hHeld=>?_);refine pz cL.aea cL.Sy (fun iG Cs=>?_)
       generalize wr.drew=I8 at cF HB hHeld ⊢
       refine nL (i:=0) (N:=some 25) #[true,false,false,false,false,false,false,false,false,false,false,false,false,false,false,false] rfl rfl (jS iG.out Cs.out aR) (fun _ _ _ h=>h) (Or.inl ⟨by rfl,wP⟩) hHeld rfl ?_
       refine rW (i:=1) (N:=some 26) #[true,true,false,false,false,false,false,false,false,false,false,false,false,false,false,false] rfl rfl (ko iG.out aR) bE (fun K hK=>?_)
       refine pN Tryz.func186 aR rfl #[.agg #[.string bB,.string b7,.bool true]] (by rfl) rfl rfl dc ?_
       with_reducible refine (gL.calls k1 bB b7 true true _ ?aX A15.out).mono ?_
       (case aX=>exact bp.below HG.out aD)
       rintro e zV ⟨rfl,hb⟩
       refine ⟨_,rfl,?_⟩
       have jF:=ah.mk (aC ow hb)
       have jG:=ah.mk (aA aD hb)
       clear cF
       clear HB
       have cF:=jF
       have HB:=jG
       clear jF jG
       refine hK.out _ _ ⟨(af cF.out 0).trans rfl,(af cF.out 1).trans rfl,(af cF.out 2).trans rfl⟩ (fun hHeld=>?_)
       clear hK K
       refine kI (a':=?_) ?_ ?_
       rotate_left
       ·show Act.put _ (some 26) _=_
        simp only [Act.put,List.setIfInBounds_toArray,List.set_cons_zero,List.set_cons_succ,fU,gj]
        rfl
       refine dS (i:=2) (N:=some 27) #[true,true,true,false,false,false,false,false,false,false,false,false,false,false,false,false] rfl rfl (cY iG.out aR) (fun _ _ _ h=>h) (Or.inl ⟨by rfl,ez⟩) rfl ?_
       refine dS (i:=3) (N:=some 28) #[true,true,true,true,false,false,false,false,false,false,false,false,false,false,false,false] rfl rfl (cY iG.out aR) (fun _ _ _ h=>h) (Or.inl ⟨by rfl,ez⟩) rfl ?_
       refine nL (i:=4) (N:=some 29) #[true,true,true,true,true,false,false,false,false,false,false,false,false,false,false,false] rfl rfl (jS iG.out Cs.out aR) (fun _ _ _ h=>h) (Or.inl ⟨by rfl,wP⟩) hHeld rfl ?_
       refine rW (i:=5) (N:=some 30) #[true,true,true,true,true,true,false,false,false,false,false,false,false,false,false,false] rfl rfl (ko iG.out aR) bE (fun K hK=>?_)
       refine pN Tryz.func187 aR rfl #[.string b7] (by rfl) rfl rfl dc ?_
       with_reducible refine (dx.calls k1 b7 false _ ?aX PF.out).mono ?_
       (case aX=>exact bp.below HG.out aD)
       rintro e w28 ⟨rfl,hb⟩
       refine ⟨_,rfl,?_⟩
       have jF:=ah.mk (aC ow hb)
       have jG:=ah.mk (aA aD hb)
       clear cF
       clear HB
       have cF:=jF
       have HB:=jG
       clear jF jG
       refine hK.out _ _ ⟨(af cF.out 0).trans rfl,(af cF.out 1).trans rfl,(af cF.out 2).trans rfl⟩ (fun hHeld=>?_)
       clear hK K
       refine kI (a':=?_) ?_ ?_
       rotate_left
       ·show Act.put _ (some 30) _=_
        simp only [Act.put,List.setIfInBounds_toArray,List.set_cons_zero,List.set_cons_succ,fU,gj]
        rfl
       refine dS (i:=6) (N:=some 31) #[true,true,true,true,true,true,true,false,false,false,false,false,false,false,false,false] rfl rfl (cY iG.out aR) (fun _ _ _ h=>h) (Or.inl ⟨by rfl,ez⟩) rfl ?_
       refine dS (i:=7) (N:=some 32) #[true,true,true,true,true,true,true,true,false,false,false,false,false,false,false,false] rfl rfl (cY iG.out aR) (fun _ _ _ h=>h) (Or.inl ⟨by rfl,ez⟩) rfl ?_
       refine dS (i:=8) (N:=some 33) (v:=undef) (a':=?_) #[true,true,true,true,true,true,true,true,true,false,false,false,false,false,false,false] rfl rfl (cY iG.out aR) (fun _ _ _ h=>h) (Or.inr ⟨by rfl,rfl⟩) ?_ ?_
       rotate_left
       ·simp only [Act.put,List.setIfInBounds_toArray,List.set_cons_zero,List.set_cons_succ,fU,gj]
        rfl
       refine dS (i:=9) (N:=some 34) (v:=undef) (a':=?_) #[true,true,true,true,true,true,true,true,true,true,false,false,false,false,false,false] rfl rfl (cY iG.out aR) (fun _ _ _ h=>h) (Or.inr ⟨by rfl,rfl⟩) ?_ ?_
       rotate_left
       ·simp only [Act.put,List.setIfInBounds_toArray,List.set_cons_zero,List.set_cons_succ,fU,gj]
        rfl
       refine dS (i:=10) (N:=some 35) (v:=undef) (a':=?_) #[true,true,true,true,true,true,true,true,true,true,true,false,false,false,false,false] rfl rfl (cY iG.out aR) (fun _ _ _ h=>h) (Or.inr ⟨by rfl,rfl⟩) ?_ ?_
       rotate_left
       ·simp only [Act.put,List.setIfInBounds_toArray,List.set_cons_zero,List.set_cons_succ,fU,gj]
        rfl
       refine dS (i:=11) (N:=some 36) (v:=undef) (a':=?_) #[true,true,true,true,true,true,true,true,true,true,true,true,false,false,false,false] rfl rfl (cY iG.out aR) (fun _ _ _ h=>h) (Or.inr ⟨by rfl,rfl⟩) ?_ ?_
       rotate_left
       ·simp only [Act.put,List.setIfInBounds_toArray,List.set_cons_zero,List.set_cons_succ,fU,gj]
        rfl
       refine dS (i:=12) (N:=some 37) (v:=undef) (a':=?_) #[true,true,true,true,true,true,true,true,true,true,true,true,true,false,false,false] rfl rfl (cY iG.out aR) (fun _ _ _ h=>h) (Or.inr ⟨by rfl,rfl⟩) ?_ ?_
       rotate_left
       ·simp only [Act.put,List.setIfInBounds_toArray,List.set_cons_zero,List.set_cons_succ,fU,gj]
        rfl
       refine dS (i:=13) (N:=some 38) (v:=undef) (a':=?_) #[true,true,true,true,true,true,true,true,true,true,true,true,true,true,false,false] rfl rfl (cY iG.out aR) (fun _ _ _ h=>h) (Or.inr ⟨by rfl,rfl⟩) ?_ ?_
       rotate_left
       ·simp only [Act.put,List.setIfInBounds_toArray,List.set_cons_zero,List.set_cons_succ,fU,gj]
        rfl
       refine dS (i:=14) (N:=some 39) #[true,true,true,true,true,true,true,true,true,true,true,true,true,true,true,false] rfl rfl (cY iG.out aR) (fun _ _ _ h=>h) (Or.inl ⟨by rfl,ez⟩) rfl ?_
       refine dS (i:=15) (N:=some 2) #[true,true,true,true,true,true,true,true,true,true,true,true,true,true,true,true] rfl rfl (cY iG.out aR) (fun _ _ _ h=>h) (Or.inl ⟨by rfl,ez⟩) rfl ?_
       refine zO (tE iG.out aR) ?_
       try go_wp2
       go_ret
       exact ⟨by rfl,aD⟩
     ·replace c16:=Bool.eq_false_iff.mpr c16
      subst c16
      rw [if_neg (show ¬ (false=true) by decide)] at H
      obtain rfl:=Option.some.inj H
      have Mo:wr.cell? ⟨iy,0,none⟩=some (.string bB):=(af cF.out 0).trans rfl
      have Mq:wr.cell? ⟨iy,1,none⟩=some (.string b7):=(af cF.out 1).trans rfl
      have Mr:wr.cell? ⟨iy,2,none⟩=some (.bool true):=(af cF.out 2).trans rfl
      have Ms:=aa cF.out 0
      have Mt:=aa cF.out 1
      have Mu:=aa cF.out 2
      try go_wp2
      have jF:=ah.mk (ng cF.out)
      have jG:=ah.mk (jI HB.out)
      clear cF
      clear HB
      have cF:=jF
      have HB:=jG
      clear jF jG
      refine uN (n:=16) (S:=fun w'=>w'.cell? ⟨iy,0,none⟩=some (.string bB)∧w'.cell? ⟨iy,1,none⟩=some (.string b7)∧w'.cell? ⟨iy,2,none⟩=some (.bool true)) (ds:=[]) #[false,false,false,false,false,false,false,false,false,false,false,false,false,false,false,false] aR (by rfl) (by rfl) ⟨(af cF.out 0).trans rfl,(af cF.out 1).trans rfl,(af cF.out 2).trans rfl⟩ (fun hHeld=>?_);refine pz cL.aea cL.Sy (fun iG Cs=>?_)
      generalize wr.drew=xp at cF HB hHeld ⊢
      refine nL (i:=0) (N:=some 25) #[true,false,false,false,false,false,false,false,false,false,false,false,false,false,false,false] rfl rfl (jS iG.out Cs.out aR) (fun _ _ _ h=>h) (Or.inl ⟨by rfl,wP⟩) hHeld rfl ?_
      refine rW (i:=1) (N:=some 26) #[true,true,false,false,false,false,false,false,false,false,false,false,false,false,false,false] rfl rfl (ko iG.out aR) bE (fun K hK=>?_)
      refine pN Tryz.func186 aR rfl #[.agg #[.string bB,.string b7,.bool true]] (by rfl) rfl rfl dc ?_
      with_reducible refine (gL.calls k1 bB b7 true false _ ?aX A15.out).mono ?_
      (case aX=>exact bp.below HG.out aD)
      rintro e w31 ⟨rfl,hb⟩
      refine ⟨_,rfl,?_⟩
      have jF:=ah.mk (aC ow hb)
      have jG:=ah.mk (aA aD hb)
      clear cF
      clear HB
      have cF:=jF
      have HB:=jG
      clear jF jG
      refine hK.out _ _ ⟨(af cF.out 0).trans rfl,(af cF.out 1).trans rfl,(af cF.out 2).trans rfl⟩ (fun hHeld=>?_)
      clear hK K
      refine kI (a':=?_) ?_ ?_
      rotate_left
      ·show Act.put _ (some 26) _=_
       simp only [Act.put,List.setIfInBounds_toArray,List.set_cons_zero,List.set_cons_succ,fU,gj]
       rfl
      refine dS (i:=2) (N:=some 27) #[true,true,true,false,false,false,false,false,false,false,false,false,false,false,false,false] rfl rfl (cY iG.out aR) (fun _ _ _ h=>h) (Or.inl ⟨by rfl,ez⟩) rfl ?_
      refine dS (i:=3) (N:=some 28) (v:=undef) (a':=?_) #[true,true,true,true,false,false,false,false,false,false,false,false,false,false,false,false] rfl rfl (cY iG.out aR) (fun _ _ _ h=>h) (Or.inr ⟨by rfl,rfl⟩) ?_ ?_
      rotate_left
      ·simp only [Act.put,List.setIfInBounds_toArray,List.set_cons_zero,List.set_cons_succ,fU,gj]
       rfl
      refine dS (i:=4) (N:=some 29) (v:=undef) (a':=?_) #[true,true,true,true,true,false,false,false,false,false,false,false,false,false,false,false] rfl rfl (cY iG.out aR) (fun _ _ _ h=>h) (Or.inr ⟨by rfl,rfl⟩) ?_ ?_
      rotate_left
      ·simp only [Act.put,List.setIfInBounds_toArray,List.set_cons_zero,List.set_cons_succ,fU,gj]
       rfl
      refine dS (i:=5) (N:=some 30) (v:=undef) (a':=?_) #[true,true,true,true,true,true,false,false,false,false,false,false,false,false,false,false] rfl rfl (cY iG.out aR) (fun _ _ _ h=>h) (Or.inr ⟨by rfl,rfl⟩) ?_ ?_
      rotate_left
      ·simp only [Act.put,List.setIfInBounds_toArray,List.set_cons_zero,List.set_cons_succ,fU,gj]
       rfl
      refine dS (i:=6) (N:=some 31) #[true,true,true,true,true,true,true,false,false,false,false,false,false,false,false,false] rfl rfl (cY iG.out aR) (fun _ _ _ h=>h) (Or.inl ⟨by rfl,ez⟩) rfl ?_
      refine dS (i:=7) (N:=some 32) #[true,true,true,true,true,true,true,true,false,false,false,false,false,false,false,false] rfl rfl (cY iG.out aR) (fun _ _ _ h=>h) (Or.inl ⟨by rfl,ez⟩) rfl ?_
      refine dS (i:=8) (N:=some 33) (v:=undef) (a':=?_) #[true,true,true,true,true,true,true,true,true,false,false,false,false,false,false,false] rfl rfl (cY iG.out aR) (fun _ _ _ h=>h) (Or.inr ⟨by rfl,rfl⟩) ?_ ?_
      rotate_left
      ·simp only [Act.put,List.setIfInBounds_toArray,List.set_cons_zero,List.set_cons_succ,fU,gj]
       rfl
      refine dS (i:=9) (N:=some 34) (v:=undef) (a':=?_) #[true,true,true,true,true,true,true,true,true,true,false,false,false,false,false,false] rfl rfl (cY iG.out aR) (fun _ _ _ h=>h) (Or.inr ⟨by rfl,rfl⟩) ?_ ?_
      rotate_left
      ·simp only [Act.put,List.setIfInBounds_toArray,List.set_cons_zero,List.set_cons_succ,fU,gj]
       rfl
      refine dS (i:=10) (N:=some 35) (v:=undef) (a':=?_) #[true,true,true,true,true,true,true,true,true,true,true,false,false,false,false,false] rfl rfl (cY iG.out aR) (fun _ _ _ h=>h) (Or.inr ⟨by rfl,rfl⟩) ?_ ?_
      rotate_left
      ·simp only [Act.put,List.setIfInBounds_toArray,List.set_cons_zero,List.set_cons_succ,fU,gj]
       rfl
      refine dS (i:=11) (N:=some 36) (v:=undef) (a':=?_) #[true,true,true,true,true,true,true,true,true,true,true,true,false,false,false,false] rfl rfl (cY iG.out aR) (fun _ _ _ h=>h) (Or.inr ⟨by rfl,rfl⟩) ?_ ?_
      rotate_left
      ·simp only [Act.put,List.setIfInBounds_toArray,List.set_cons_zero,List.set_cons_succ,fU,gj]
       rfl
      refine dS (i:=12) (N:=some 37) (v:=undef) (a':=?_) #[true,true,true,true,true,true,true,true,true,true,true,true,true,false,false,false] rfl rfl (cY iG.out aR) (fun _ _ _ h=>h) (Or.inr ⟨by rfl,rfl⟩) ?_ ?_
      rotate_left
      ·simp only [Act.put,List.setIfInBounds_toArray,List.set_cons_zero,List.set_cons_succ,fU,gj]
       rfl
      refine dS (i:=13) (N:=some 38) (v:=undef) (a':=?_) #[true,true,true,true,true,true,true,true,true,true,true,true,true,true,false,false] rfl rfl (cY iG.out aR) (fun _ _ _ h=>h) (Or.inr ⟨by rfl,rfl⟩) ?_ ?_
      rotate_left
      ·simp only [Act.put,List.setIfInBounds_toArray,List.set_cons_zero,List.set_cons_succ,fU,gj]
       rfl
      refine dS (i:=14) (N:=some 39) #[true,true,true,true,true,true,true,true,true,true,true,true,true,true,true,false] rfl rfl (cY iG.out aR) (fun _ _ _ h=>h) (Or.inl ⟨by rfl,ez⟩) rfl ?_
      refine dS (i:=15) (N:=some 2) #[true,true,true,true,true,true,true,true,true,true,true,true,true,true,true,true] rfl rfl (cY iG.out aR) (fun _ _ _ h=>h) (Or.inl ⟨by rfl,ez⟩) rfl ?_
      refine zO (tE iG.out aR) ?_
      try go_wp2
      go_ret
      exact ⟨by rfl,aD⟩
    ·replace c14:=Bool.eq_false_iff.mpr c14
     subst c14
     rw [if_neg (show ¬ (false=true) by decide)] at H
     obtain ⟨t205,A32,H⟩:=bd_ H
     by_cases c33:t205=true
     ·subst c33
      rw [if_pos rfl] at H
      obtain ⟨t206,A34,H⟩:=bd_ H
      obtain rfl:=Option.some.inj H
      have au1:wr.cell? ⟨iy,0,none⟩=some (.string bB):=(af cF.out 0).trans rfl
      have au2:wr.cell? ⟨iy,1,none⟩=some (.string b7):=(af cF.out 1).trans rfl
      have au3:wr.cell? ⟨iy,2,none⟩=some (.bool false):=(af cF.out 2).trans rfl
      have au4:=aa cF.out 0
      have au5:=aa cF.out 1
      have au6:=aa cF.out 2
      go_wp2_with (first|((with_reducible refine bq (f:=186) rfl ?_);refine cK (some 41) rfl rfl Tryz.func186 aR rfl #[.agg #[.string bB,.string b7,.bool false]] rfl dc ?_;(with_reducible refine (gL.calls k1 bB b7 false true _ ?aX A32.out).mono ?_);(case aX=>exact bp.below HG.out aD);rintro e w36 ⟨rfl,hb⟩;refine ⟨_,rfl,?_⟩;replace cF:=ah.mk (aC ow hb);replace HB:=ah.mk (aA aD hb);(try clear hb);have Ar:w36.cell? ⟨iy,0,none⟩=some (.string bB):=(af cF.out 0).trans rfl;have Au:w36.cell? ⟨iy,1,none⟩=some (.string b7):=(af cF.out 1).trans rfl;have Aw:w36.cell? ⟨iy,2,none⟩=some (.bool false):=(af cF.out 2).trans rfl;have Ax:=aa cF.out 0;have Ay:=aa cF.out 1;have Az:=aa cF.out 2)|(go_at_call 145;(with_reducible refine (jO.calls k1 b7 t206 _ ?aX A34.out).mono ?_);(case aX=>exact bp.below HG.out aD);rintro e pY ⟨rfl,hb⟩;replace cF:=ah.mk (aC ow hb);replace HB:=ah.mk (aA aD hb);(try clear hb)))
      go_ret
      exact ⟨by rfl,aD⟩
     ·replace c33:=Bool.eq_false_iff.mpr c33
      subst c33
      rw [if_neg (show ¬ (false=true) by decide)] at H
      obtain rfl:=Option.some.inj H
      have NZ:wr.cell? ⟨iy,0,none⟩=some (.string bB):=(af cF.out 0).trans rfl
      have N0:wr.cell? ⟨iy,1,none⟩=some (.string b7):=(af cF.out 1).trans rfl
      have N1:wr.cell? ⟨iy,2,none⟩=some (.bool false):=(af cF.out 2).trans rfl
      have N2:=aa cF.out 0
      have N3:=aa cF.out 1
      have N4:=aa cF.out 2
      go_wp2_with (((with_reducible refine bq (f:=186) rfl ?_);refine cK (some 41) rfl rfl Tryz.func186 aR rfl #[.agg #[.string bB,.string b7,.bool false]] rfl dc ?_;(with_reducible refine (gL.calls k1 bB b7 false false _ ?aX A32.out).mono ?_);(case aX=>exact bp.below HG.out aD);rintro e w40 ⟨rfl,hb⟩;refine ⟨_,rfl,?_⟩;replace cF:=ah.mk (aC ow hb);replace HB:=ah.mk (aA aD hb);(try clear hb)))
      go_ret
      exact ⟨by rfl,aD⟩
end Go.Proofs.YtbjjaaodfbjkfaaGreatDoor.qb
