import Derived.Test.YtokpnfljjjjikaaGreatDoorZo
import Derived.Test.YtokpnfljjjjikaaGreatDoorQCbx0
import Derived.Test.YtokpnfljjjjikaaGreatDoorQCbx5
import Derived.Test.YtokpnfljjjjikaaGreatDoorQCbx8
import Derived.Test.YtokpnfljjjjikaaGreatDoorQCbx13
import Derived.Test.YtokpnfljjjjikaaGreatDoorESmall
namespace Go.Proofs.YtokpnfljjjjikaaGreatDoor.pJ
open Go.RowKit Go.Proofs.aj.bV Go.Proofs.aj.gq Go.Proofs.aj.dB
attribute [local go_sem] jo jq kM kN iO iP jr jt
set_option linter.unusedVariables false
set_option linter.unusedSimpArgs false
def eG.l0:Nat→Int→Int→ByteArray→ByteArray→Bool→Option (Bool)
 | 0,_,_,_,_,_ =>none
 |k + 1,x6,x7,yT,wo,ES=>if x7 < x6 then (if 0≤x7 then (if x7 < (yT.size:Int) then (if (bt yT x7) < 32 then (some false) else (if (bt yT x7) > 126 then (some false) else (eG.l0 k x6 (wrap64 (x7 + 1)) yT wo ES))) else (none)) else (none)) else (if ES=true then ((eN.f k yT wo ES).bind fun Tj=>(if Tj=true then ((bZ.f k wo).bind fun GN=>(if GN=true then ((cH.f wo).bind fun Br=>(some (Br.toList == wo.toList))) else (some false))) else (some false))) else ((eN.f k yT wo ES).bind fun Tk=>(if Tk=true then ((lC.f k wo).bind fun GP=>(some GP)) else (some false))))
def eG.f (k:Nat) (bg:ByteArray) (bI:ByteArray) (bJ:Bool):Option (Bool):=eG.l0 k (bg.size:Int) 0 bg bI bJ
def eG.T8:Bool×List (List Nat×List Nat):=(true,[([],[]),([0],[0]),([1,1],[1]),([2],[2]),([3,2],[2,3]),([4,2,2],[2,4]),([2,5],[2,5]),([6,5],[6]),([7],[7]),([8,7],[7,8]),([9,7,7],[7,9]),([7],[7]),([11,7],[7,11]),([10,12,7],[7,10,12]),([7,13],[7,13]),([14,10,0,1,2,3,4,5,6,7,8,9,10,11,12,13,14],[14])])
def eG.B8:List Nat:=[0,1,3,7,15,31,63,127,255,511,1023,255,2303,8191,16383,32767]
theorem eG.acp:sH .any (opsOf Tryz.f63 8)=eG.T8:=by kernel_rfl
theorem eG.Wm:u5 eG.T8.2 eG.B8=true:=by kernel_rfl
set_option maxHeartbeats 8000000 in
set_option maxRecDepth 100000 in
theorem eG.calls (k:Nat) (bg:ByteArray) (bI:ByteArray) (bJ:Bool) (r:Bool) (w:World) (hG:aU w) (h:eG.f k bg bI bJ=some r):
 Calls Tryz.prog 63 #[.agg #[.string bg,.string bI,.bool bJ]] w fun e w'=>e= .returned (.bool r)∧Below w.heap.size w w':=by
 have LP:=Tryz.underlying30
 have HB:=ah.mk (Below.refl w.heap.size w)
 have HG:=ah.mk hG
 clear hG
 have H:(eG.l0 k (bg.size:Int) 0 bg bI bJ)=some r:=h
 clear h
 have H':=ah.mk H
 clear H
 go_enter Tryz.func63,Tryz.ntmps63
 go_wp2_with (first|((with_reducible refine cC (N:=1) rfl ?_);refine b9 ?hg (N:=1) ?hd (cs:=#[.string bg,.string bI,.bool bJ]) (t:=30) ?hr ?_;(case hd=>rfl);(case hg=>rfl);(case hr=>first|(go_simp;done)|(go_simp;rfl));intro ig hg w2 cJ hb;have bB:=ah.mk (ay bN hb);have bL:=ah.mk (cJ);have bY:=ah.mk ((dz:w.heap.size≤ig));have cK:=ah.mk ((dz:w.heap.size≤ig));clear HB;have HB:=bB;have dD:=bL;have apa:=bY;have adl:=cK;clear bB bL bY cK;clear hb cJ hg;have uC:w2.cell? ⟨ig,0,none⟩=some (.string bg):=(af dD.out 0).trans rfl;have uD:w2.cell? ⟨ig,1,none⟩=some (.string bI):=(af dD.out 1).trans rfl;have J9:w2.cell? ⟨ig,2,none⟩=some (.bool bJ):=(af dD.out 2).trans rfl;have uE:=aa dD.out 0;have uF:=aa dD.out 1;have Ka:=aa dD.out 2))
 go_loopg [7] k (fun kq v7 w'=>∃ (oN:Int),v7= .int .i64 oN∧ah (eG.l0 kq (bg.size:Int) oN bg bI bJ=some r)∧ah (kq≤k)∧ah (w'.heap[ig]? =some (.cells #[.string bg,.string bI,.bool bJ] 30 (0,0)))∧ah (Below w.heap.size w w'))
 case atStart=>exact ⟨(0),ey,H',⟨Nat.le_refl _⟩,⟨sA⟩,⟨kf⟩⟩
 case round=>
  clear H'
  try clear p2
  try clear uC
  try clear uD
  try clear J9
  try clear uE
  try clear uF
  try clear Ka
  obtain ⟨oN,rfl,HA,uX,dD,HB⟩:=hrel
  cases gk with
  |zero=>exact absurd HA.out (by simp [eG.l0])
  |succ k1=>
   have H:=HA.out
   clear HA
   simp only [eG.l0] at H
   by_cases c4:oN < (bg.size:Int)
   ·rw [if_pos c4] at H
    have o9:decide (oN < (bg.size:Int))=true:=decide_eq_true c4
    clear c4
    by_cases c5: 0≤oN
    ·rw [if_pos c5] at H
     have uB:decide (0≤oN)=true:=decide_eq_true c5
     clear c5
     by_cases c6:oN < (bg.size:Int)
     ·rw [if_pos c6] at H
      have pP:decide (oN < (bg.size:Int))=true:=decide_eq_true c6
      clear c6
      by_cases c8:(bt bg oN) < 32
      ·rw [if_pos c8] at H
       have J3:decide ((bt bg oN) < 32)=true:=decide_eq_true c8
       clear c8
       obtain rfl:=Option.some.inj H
       have qF:wr.cell? ⟨ig,0,none⟩=some (.string bg):=(af dD.out 0).trans rfl
       have qG:wr.cell? ⟨ig,1,none⟩=some (.string bI):=(af dD.out 1).trans rfl
       have xp:wr.cell? ⟨ig,2,none⟩=some (.bool bJ):=(af dD.out 2).trans rfl
       have qH:=aa dD.out 0
       have qI:=aa dD.out 1
       have xq:=aa dD.out 2
       have p7: 0≤(oN:Int):=of_decide_eq_true cW
       have q7:oN < (bg.size:Int):=of_decide_eq_true cW
       have Dj:=iw bg oN
       replace p7:=eq_true p7
       replace q7:=eq_true q7
       go_wp2
       go_ret
       exact ⟨cR,kf⟩
      ·rw [if_neg c8] at H
       have J3:decide ((bt bg oN) < 32)=false:=decide_eq_false c8
       clear c8
       by_cases c11:(bt bg oN) > 126
       ·rw [if_pos c11] at H
        have zn:decide (126 < (bt bg oN))=true:=decide_eq_true c11
        clear c11
        obtain rfl:=Option.some.inj H
        have u7:wr.cell? ⟨ig,0,none⟩=some (.string bg):=(af dD.out 0).trans rfl
        have u9:wr.cell? ⟨ig,1,none⟩=some (.string bI):=(af dD.out 1).trans rfl
        have yf:wr.cell? ⟨ig,2,none⟩=some (.bool bJ):=(af dD.out 2).trans rfl
        have vk:=aa dD.out 0
        have vo:=aa dD.out 1
        have yg:=aa dD.out 2
        have p7: 0≤(oN:Int):=of_decide_eq_true cW
        have q7:oN < (bg.size:Int):=of_decide_eq_true cW
        have Dj:=iw bg oN
        replace p7:=eq_true p7
        replace q7:=eq_true q7
        have p10: 0≤(oN:Int):=of_decide_eq_true cW
        have q10:oN < (bg.size:Int):=of_decide_eq_true cW
        have amW:=iw bg oN
        replace p10:=eq_true p10
        replace q10:=eq_true q10
        go_wp2
        go_ret
        exact ⟨cR,kf⟩
       ·rw [if_neg c11] at H
        have zn:decide (126 < (bt bg oN))=false:=decide_eq_false c11
        clear c11
        have H':=ah.mk H
        clear H
        have qN:wr.cell? ⟨ig,0,none⟩=some (.string bg):=(af dD.out 0).trans rfl
        have qO:wr.cell? ⟨ig,1,none⟩=some (.string bI):=(af dD.out 1).trans rfl
        have vq:wr.cell? ⟨ig,2,none⟩=some (.bool bJ):=(af dD.out 2).trans rfl
        have qP:=aa dD.out 0
        have qQ:=aa dD.out 1
        have vv:=aa dD.out 2
        have p7: 0≤(oN:Int):=of_decide_eq_true cW
        have q7:oN < (bg.size:Int):=of_decide_eq_true cW
        have Dj:=iw bg oN
        replace p7:=eq_true p7
        replace q7:=eq_true q7
        have p10: 0≤(oN:Int):=of_decide_eq_true cW
        have q10:oN < (bg.size:Int):=of_decide_eq_true cW
        have amW:=iw bg oN
        replace p10:=eq_true p10
        replace q10:=eq_true q10
        go_wp2
        go_roundg k1
        case measure=>have:=uX.out;omega
        case rel=>exact ⟨(wrap64 (oN + 1)),ey,H',⟨j6⟩,⟨sA⟩,⟨kf⟩⟩
     ·rw [if_neg c6] at H
      exact absurd H bn
    ·rw [if_neg c5] at H
     exact absurd H bn
   ·rw [if_neg c4] at H
    have o9:decide (oN < (bg.size:Int))=false:=decide_eq_false c4
    clear c4
    by_cases c14:bJ=true
    ·subst c14
     have H1:((eN.f k1 bg bI true).bind fun Tj=>(if Tj=true then ((bZ.f k1 bI).bind fun GN=>(if GN=true then ((cH.f bI).bind fun Br=>(some (Br.toList == bI.toList))) else (some false))) else (some false)))=some r:=by rw [if_pos rfl] at H;exact H
     clear H
     have H:=H1
     clear H1
     replace H:=Option.bind_eq_some_iff.mp H
     obtain ⟨Tj,VM,H⟩:=H
     replace H:(if Tj=true then ((bZ.f k1 bI).bind fun GN=>(if GN=true then ((cH.f bI).bind fun Br=>(some (Br.toList == bI.toList))) else (some false))) else (some false))=some r:=H
     have A15:=ah.mk VM
     clear VM
     by_cases c16:Tj=true
     ·subst c16
      have H1:((bZ.f k1 bI).bind fun GN=>(if GN=true then ((cH.f bI).bind fun Br=>(some (Br.toList == bI.toList))) else (some false)))=some r:=by rw [if_pos rfl] at H;exact H
      clear H
      have H:=H1
      clear H1
      replace H:=Option.bind_eq_some_iff.mp H
      obtain ⟨GN,aeS,H⟩:=H
      replace H:(if GN=true then ((cH.f bI).bind fun Br=>(some (Br.toList == bI.toList))) else (some false))=some r:=H
      have A17:=ah.mk aeS
      clear aeS
      by_cases c18:GN=true
      ·subst c18
       have H1:((cH.f bI).bind fun Br=>(some (Br.toList == bI.toList)))=some r:=by rw [if_pos rfl] at H;exact H
       clear H
       have H:=H1
       clear H1
       replace H:=Option.bind_eq_some_iff.mp H
       obtain ⟨Br,aeT,H⟩:=H
       replace H:(some (Br.toList == bI.toList))=some r:=H
       have A19:=ah.mk aeT
       clear aeT
       obtain rfl:=Option.some.inj H
       have EF:wr.cell? ⟨ig,0,none⟩=some (.string bg):=(af dD.out 0).trans rfl
       have EG:wr.cell? ⟨ig,1,none⟩=some (.string bI):=(af dD.out 1).trans rfl
       have Zn:wr.cell? ⟨ig,2,none⟩=some (.bool true):=(af dD.out 2).trans rfl
       have EH:=aa dD.out 0
       have EI:=aa dD.out 1
       have Zo:=aa dD.out 2
       try go_wp2
       have bB:=ah.mk (aG dD.out)
       have bL:=ah.mk (br HB.out)
       clear dD
       clear HB
       have dD:=bB
       have HB:=bL
       clear bB bL
       refine BW (n:=16) (S:=fun w'=>w'.cell? ⟨ig,0,none⟩=some (.string bg)∧w'.cell? ⟨ig,1,none⟩=some (.string bI)∧w'.cell? ⟨ig,2,none⟩=some (.bool true)) (ds:=[]) #[false,false,false,false,false,false,false,false,false,false,false,false,false,false,false,false] av (by rfl) (by rfl) ⟨(af dD.out 0).trans rfl,(af dD.out 1).trans rfl,(af dD.out 2).trans rfl⟩ (fun hHeld=>?_);refine uJ eG.acp eG.Wm (fun mB OC=>?_)
       generalize wr.drew=w21 at dD HB hHeld ⊢
       refine nE (i:=0) (N:=some 25) (v:=?_) (a':=?_) #[true,false,false,false,false,false,false,false,false,false,false,false,false,false,false,false] rfl rfl (nG mB.out OC.out av) (fun _ _ _ h=>h) (Or.inl ⟨by rfl,?_⟩) hHeld ?_ ?_
       rotate_left
       ·rintro w' ⟨s0,s1,s2⟩
        go_simp
        with_reducible rfl
       rotate_left
       ·simp only [Act.put,List.setIfInBounds_toArray,List.set_cons_zero,List.set_cons_succ,dx,dA]
        rfl
       refine IY (i:=1) (N:=some 26) #[true,true,false,false,false,false,false,false,false,false,false,false,false,false,false,false] rfl rfl (xd mB.out av) bU (fun K hK=>?_)
       refine CD Tryz.func58 av rfl #[.agg #[.string bg,.string bI,.bool true]] (by rfl) rfl rfl cT ?_
       with_reducible refine (eN.calls k1 bg bI true true _ ?aX A15.out).mono ?_
       (case aX=>exact aU.below HG.out kf)
       rintro e Gx ⟨rfl,hb⟩
       refine ⟨_,rfl,?_⟩
       have bB:=ah.mk (aM (g:=ig) (o:= .cells #[.string bg,.string bI,.bool true] 30 (0,0)) sA hb)
       have bL:=ah.mk (ay kf hb)
       clear dD
       clear HB
       have dD:=bB
       have HB:=bL
       clear bB bL
       (try clear hb)
       (try clear hb2)
       (try clear hk)
       (try clear hi)
       refine hK.out _ _ ⟨(af dD.out 0).trans rfl,(af dD.out 1).trans rfl,(af dD.out 2).trans rfl⟩ (fun hHeld=>?_)
       clear hK K
       refine CC (a':=?_) ?_ ?_
       rotate_left
       ·show Act.put _ (some 26) _=_
        simp only [Act.put,List.setIfInBounds_toArray,List.set_cons_zero,List.set_cons_succ,dx,dA]
        rfl
       refine eY (i:=2) (N:=some 27) (v:=?_) (a':=?_) #[true,true,true,false,false,false,false,false,false,false,false,false,false,false,false,false] rfl rfl (fY mB.out av) (fun _ _ _ h=>h) (Or.inl ⟨by rfl,?_⟩) ?_ ?_
       rotate_left
       ·intro w'
        go_simp
        with_reducible rfl
       rotate_left
       ·simp only [Act.put,List.setIfInBounds_toArray,List.set_cons_zero,List.set_cons_succ,dx,dA]
        rfl
       refine eY (i:=3) (N:=some 28) (v:=?_) (a':=?_) #[true,true,true,true,false,false,false,false,false,false,false,false,false,false,false,false] rfl rfl (fY mB.out av) (fun _ _ _ h=>h) (Or.inl ⟨by rfl,?_⟩) ?_ ?_
       rotate_left
       ·intro w'
        go_simp
        with_reducible rfl
       rotate_left
       ·simp only [Act.put,List.setIfInBounds_toArray,List.set_cons_zero,List.set_cons_succ,dx,dA]
        rfl
       refine nE (i:=4) (N:=some 29) (v:=?_) (a':=?_) #[true,true,true,true,true,false,false,false,false,false,false,false,false,false,false,false] rfl rfl (nG mB.out OC.out av) (fun _ _ _ h=>h) (Or.inl ⟨by rfl,?_⟩) hHeld ?_ ?_
       rotate_left
       ·rintro w' ⟨s0,s1,s2⟩
        go_simp
        with_reducible rfl
       rotate_left
       ·simp only [Act.put,List.setIfInBounds_toArray,List.set_cons_zero,List.set_cons_succ,dx,dA]
        rfl
       refine IY (i:=5) (N:=some 30) #[true,true,true,true,true,true,false,false,false,false,false,false,false,false,false,false] rfl rfl (xd mB.out av) bU (fun K hK=>?_)
       refine CD Tryz.func27 av rfl #[.string bI] (by rfl) rfl rfl cT ?_
       with_reducible refine (bZ.calls k1 bI true _ ?aX A17.out).mono ?_
       (case aX=>exact aU.below HG.out kf)
       rintro e Mo ⟨rfl,hb⟩
       refine ⟨_,rfl,?_⟩
       have bB:=ah.mk (aM (g:=ig) (o:= .cells #[.string bg,.string bI,.bool true] 30 (0,0)) sA hb)
       have bL:=ah.mk (ay kf hb)
       clear dD
       clear HB
       have dD:=bB
       have HB:=bL
       clear bB bL
       (try clear hb)
       (try clear hb2)
       (try clear hk)
       (try clear hi)
       refine hK.out _ _ ⟨(af dD.out 0).trans rfl,(af dD.out 1).trans rfl,(af dD.out 2).trans rfl⟩ (fun hHeld=>?_)
       clear hK K
       refine CC (a':=?_) ?_ ?_
       rotate_left
       ·show Act.put _ (some 30) _=_
        simp only [Act.put,List.setIfInBounds_toArray,List.set_cons_zero,List.set_cons_succ,dx,dA]
        rfl
       refine eY (i:=6) (N:=some 31) (v:=?_) (a':=?_) #[true,true,true,true,true,true,true,false,false,false,false,false,false,false,false,false] rfl rfl (fY mB.out av) (fun _ _ _ h=>h) (Or.inl ⟨by rfl,?_⟩) ?_ ?_
       rotate_left
       ·intro w'
        go_simp
        with_reducible rfl
       rotate_left
       ·simp only [Act.put,List.setIfInBounds_toArray,List.set_cons_zero,List.set_cons_succ,dx,dA]
        rfl
       refine eY (i:=7) (N:=some 32) (v:=?_) (a':=?_) #[true,true,true,true,true,true,true,true,false,false,false,false,false,false,false,false] rfl rfl (fY mB.out av) (fun _ _ _ h=>h) (Or.inl ⟨by rfl,?_⟩) ?_ ?_
       rotate_left
       ·intro w'
        go_simp
        with_reducible rfl
       rotate_left
       ·simp only [Act.put,List.setIfInBounds_toArray,List.set_cons_zero,List.set_cons_succ,dx,dA]
        rfl
       refine eY (i:=8) (N:=some 33) (v:=?_) (a':=?_) #[true,true,true,true,true,true,true,true,true,false,false,false,false,false,false,false] rfl rfl (fY mB.out av) (fun _ _ _ h=>h) (Or.inl ⟨by rfl,?_⟩) ?_ ?_
       rotate_left
       ·intro w'
        go_simp
        with_reducible rfl
       rotate_left
       ·simp only [Act.put,List.setIfInBounds_toArray,List.set_cons_zero,List.set_cons_succ,dx,dA]
        rfl
       refine eY (i:=11) (N:=some 36) (v:=?_) (a':=?_) #[true,true,true,true,true,true,true,true,true,false,false,true,false,false,false,false] rfl rfl (fY mB.out av) (fun _ _ _ h=>h) (Or.inl ⟨by rfl,?_⟩) ?_ ?_
       rotate_left
       ·intro w'
        go_simp
        with_reducible rfl
       rotate_left
       ·simp only [Act.put,List.setIfInBounds_toArray,List.set_cons_zero,List.set_cons_succ,dx,dA]
        rfl
       refine nE (i:=9) (N:=some 34) (v:=?_) (a':=?_) #[true,true,true,true,true,true,true,true,true,true,false,true,false,false,false,false] rfl rfl (nG mB.out OC.out av) (fun _ _ _ h=>h) (Or.inl ⟨by rfl,?_⟩) hHeld ?_ ?_
       rotate_left
       ·rintro w' ⟨s0,s1,s2⟩
        go_simp
        with_reducible rfl
       rotate_left
       ·simp only [Act.put,List.setIfInBounds_toArray,List.set_cons_zero,List.set_cons_succ,dx,dA]
        rfl
       refine nE (i:=12) (N:=some 37) (v:=?_) (a':=?_) #[true,true,true,true,true,true,true,true,true,true,false,true,true,false,false,false] rfl rfl (nG mB.out OC.out av) (fun _ _ _ h=>h) (Or.inl ⟨by rfl,?_⟩) hHeld ?_ ?_
       rotate_left
       ·rintro w' ⟨s0,s1,s2⟩
        go_simp
        with_reducible rfl
       rotate_left
       ·simp only [Act.put,List.setIfInBounds_toArray,List.set_cons_zero,List.set_cons_succ,dx,dA]
        rfl
       refine IY (i:=10) (N:=some 35) #[true,true,true,true,true,true,true,true,true,true,true,true,true,false,false,false] rfl rfl (xd mB.out av) bU (fun K hK=>?_)
       refine CD Tryz.func81 av rfl #[.string bI] (by rfl) rfl rfl cT ?_
       with_reducible refine (cH.calls bI Br _ A19.out).mono ?_
       rintro e KW ⟨rfl,hb⟩
       refine ⟨_,rfl,?_⟩
       have bB:=ah.mk (aM (g:=ig) (o:= .cells #[.string bg,.string bI,.bool true] 30 (0,0)) sA hb)
       have bL:=ah.mk (ay kf hb)
       clear dD
       clear HB
       have dD:=bB
       have HB:=bL
       clear bB bL
       (try clear hb)
       (try clear hb2)
       (try clear hk)
       (try clear hi)
       refine hK.out _ _ ⟨(af dD.out 0).trans rfl,(af dD.out 1).trans rfl,(af dD.out 2).trans rfl⟩ (fun hHeld=>?_)
       clear hK K
       refine CC (a':=?_) ?_ ?_
       rotate_left
       ·show Act.put _ (some 35) _=_
        simp only [Act.put,List.setIfInBounds_toArray,List.set_cons_zero,List.set_cons_succ,dx,dA]
        rfl
       refine eY (i:=13) (N:=some 38) (v:=?_) (a':=?_) #[true,true,true,true,true,true,true,true,true,true,true,true,true,true,false,false] rfl rfl (fY mB.out av) (fun _ _ _ h=>h) (Or.inl ⟨by rfl,?_⟩) ?_ ?_
       rotate_left
       ·intro w'
        go_simp
        with_reducible rfl
       rotate_left
       ·simp only [Act.put,List.setIfInBounds_toArray,List.set_cons_zero,List.set_cons_succ,dx,dA]
        rfl
       refine eY (i:=14) (N:=some 39) (v:=?_) (a':=?_) #[true,true,true,true,true,true,true,true,true,true,true,true,true,true,true,false] rfl rfl (fY mB.out av) (fun _ _ _ h=>h) (Or.inl ⟨by rfl,?_⟩) ?_ ?_
       rotate_left
       ·intro w'
        go_simp
        with_reducible rfl
       rotate_left
       ·simp only [Act.put,List.setIfInBounds_toArray,List.set_cons_zero,List.set_cons_succ,dx,dA]
        rfl
       refine eY (i:=15) (N:=some 2) (v:=?_) (a':=?_) #[true,true,true,true,true,true,true,true,true,true,true,true,true,true,true,true] rfl rfl (fY mB.out av) (fun _ _ _ h=>h) (Or.inl ⟨by rfl,?_⟩) ?_ ?_
       rotate_left
       ·intro w'
        go_simp
        with_reducible rfl
       rotate_left
       ·simp only [Act.put,List.setIfInBounds_toArray,List.set_cons_zero,List.set_cons_succ,dx,dA]
        rfl
       refine G6 (Ag mB.out av) ?_
       try go_wp2
       go_ret
       exact ⟨cR,kf⟩
      ·replace c18:=Bool.eq_false_iff.mpr c18
       subst c18
       have H1:(some false)=some r:=by rw [if_neg (show ¬ (false=true) by decide)] at H;exact H
       clear H
       have H:=H1
       clear H1
       obtain rfl:=Option.some.inj H
       have ud:wr.cell? ⟨ig,0,none⟩=some (.string bg):=(af dD.out 0).trans rfl
       have ue:wr.cell? ⟨ig,1,none⟩=some (.string bI):=(af dD.out 1).trans rfl
       have uf:wr.cell? ⟨ig,2,none⟩=some (.bool true):=(af dD.out 2).trans rfl
       have ug:=aa dD.out 0
       have uh:=aa dD.out 1
       have uj:=aa dD.out 2
       try go_wp2
       have bB:=ah.mk (aG dD.out)
       have bL:=ah.mk (br HB.out)
       clear dD
       clear HB
       have dD:=bB
       have HB:=bL
       clear bB bL
       refine BW (n:=16) (S:=fun w'=>w'.cell? ⟨ig,0,none⟩=some (.string bg)∧w'.cell? ⟨ig,1,none⟩=some (.string bI)∧w'.cell? ⟨ig,2,none⟩=some (.bool true)) (ds:=[]) #[false,false,false,false,false,false,false,false,false,false,false,false,false,false,false,false] av (by rfl) (by rfl) ⟨(af dD.out 0).trans rfl,(af dD.out 1).trans rfl,(af dD.out 2).trans rfl⟩ (fun hHeld=>?_);refine uJ eG.acp eG.Wm (fun mB OC=>?_)
       generalize wr.drew=zK at dD HB hHeld ⊢
       refine nE (i:=0) (N:=some 25) (v:=?_) (a':=?_) #[true,false,false,false,false,false,false,false,false,false,false,false,false,false,false,false] rfl rfl (nG mB.out OC.out av) (fun _ _ _ h=>h) (Or.inl ⟨by rfl,?_⟩) hHeld ?_ ?_
       rotate_left
       ·rintro w' ⟨s0,s1,s2⟩
        go_simp
        with_reducible rfl
       rotate_left
       ·simp only [Act.put,List.setIfInBounds_toArray,List.set_cons_zero,List.set_cons_succ,dx,dA]
        rfl
       refine IY (i:=1) (N:=some 26) #[true,true,false,false,false,false,false,false,false,false,false,false,false,false,false,false] rfl rfl (xd mB.out av) bU (fun K hK=>?_)
       refine CD Tryz.func58 av rfl #[.agg #[.string bg,.string bI,.bool true]] (by rfl) rfl rfl cT ?_
       with_reducible refine (eN.calls k1 bg bI true true _ ?aX A15.out).mono ?_
       (case aX=>exact aU.below HG.out kf)
       rintro e VO ⟨rfl,hb⟩
       refine ⟨_,rfl,?_⟩
       have bB:=ah.mk (aM (g:=ig) (o:= .cells #[.string bg,.string bI,.bool true] 30 (0,0)) sA hb)
       have bL:=ah.mk (ay kf hb)
       clear dD
       clear HB
       have dD:=bB
       have HB:=bL
       clear bB bL
       (try clear hb)
       (try clear hb2)
       (try clear hk)
       (try clear hi)
       refine hK.out _ _ ⟨(af dD.out 0).trans rfl,(af dD.out 1).trans rfl,(af dD.out 2).trans rfl⟩ (fun hHeld=>?_)
       clear hK K
       refine CC (a':=?_) ?_ ?_
       rotate_left
       ·show Act.put _ (some 26) _=_
        simp only [Act.put,List.setIfInBounds_toArray,List.set_cons_zero,List.set_cons_succ,dx,dA]
        rfl
       refine eY (i:=2) (N:=some 27) (v:=?_) (a':=?_) #[true,true,true,false,false,false,false,false,false,false,false,false,false,false,false,false] rfl rfl (fY mB.out av) (fun _ _ _ h=>h) (Or.inl ⟨by rfl,?_⟩) ?_ ?_
       rotate_left
       ·intro w'
        go_simp
        with_reducible rfl
       rotate_left
       ·simp only [Act.put,List.setIfInBounds_toArray,List.set_cons_zero,List.set_cons_succ,dx,dA]
        rfl
       refine eY (i:=3) (N:=some 28) (v:=?_) (a':=?_) #[true,true,true,true,false,false,false,false,false,false,false,false,false,false,false,false] rfl rfl (fY mB.out av) (fun _ _ _ h=>h) (Or.inl ⟨by rfl,?_⟩) ?_ ?_
       rotate_left
       ·intro w'
        go_simp
        with_reducible rfl
       rotate_left
       ·simp only [Act.put,List.setIfInBounds_toArray,List.set_cons_zero,List.set_cons_succ,dx,dA]
        rfl
       refine nE (i:=4) (N:=some 29) (v:=?_) (a':=?_) #[true,true,true,true,true,false,false,false,false,false,false,false,false,false,false,false] rfl rfl (nG mB.out OC.out av) (fun _ _ _ h=>h) (Or.inl ⟨by rfl,?_⟩) hHeld ?_ ?_
       rotate_left
       ·rintro w' ⟨s0,s1,s2⟩
        go_simp
        with_reducible rfl
       rotate_left
       ·simp only [Act.put,List.setIfInBounds_toArray,List.set_cons_zero,List.set_cons_succ,dx,dA]
        rfl
       refine IY (i:=5) (N:=some 30) #[true,true,true,true,true,true,false,false,false,false,false,false,false,false,false,false] rfl rfl (xd mB.out av) bU (fun K hK=>?_)
       refine CD Tryz.func27 av rfl #[.string bI] (by rfl) rfl rfl cT ?_
       with_reducible refine (bZ.calls k1 bI false _ ?aX A17.out).mono ?_
       (case aX=>exact aU.below HG.out kf)
       rintro e VP ⟨rfl,hb⟩
       refine ⟨_,rfl,?_⟩
       have bB:=ah.mk (aM (g:=ig) (o:= .cells #[.string bg,.string bI,.bool true] 30 (0,0)) sA hb)
       have bL:=ah.mk (ay kf hb)
       clear dD
       clear HB
       have dD:=bB
       have HB:=bL
       clear bB bL
       (try clear hb)
       (try clear hb2)
       (try clear hk)
       (try clear hi)
       refine hK.out _ _ ⟨(af dD.out 0).trans rfl,(af dD.out 1).trans rfl,(af dD.out 2).trans rfl⟩ (fun hHeld=>?_)
       clear hK K
       refine CC (a':=?_) ?_ ?_
       rotate_left
       ·show Act.put _ (some 30) _=_
        simp only [Act.put,List.setIfInBounds_toArray,List.set_cons_zero,List.set_cons_succ,dx,dA]
        rfl
       refine eY (i:=6) (N:=some 31) (v:=?_) (a':=?_) #[true,true,true,true,true,true,true,false,false,false,false,false,false,false,false,false] rfl rfl (fY mB.out av) (fun _ _ _ h=>h) (Or.inl ⟨by rfl,?_⟩) ?_ ?_
       rotate_left
       ·intro w'
        go_simp
        with_reducible rfl
       rotate_left
       ·simp only [Act.put,List.setIfInBounds_toArray,List.set_cons_zero,List.set_cons_succ,dx,dA]
        rfl
       refine eY (i:=7) (N:=some 32) (v:=?_) (a':=?_) #[true,true,true,true,true,true,true,true,false,false,false,false,false,false,false,false] rfl rfl (fY mB.out av) (fun _ _ _ h=>h) (Or.inl ⟨by rfl,?_⟩) ?_ ?_
       rotate_left
       ·intro w'
        go_simp
        with_reducible rfl
       rotate_left
       ·simp only [Act.put,List.setIfInBounds_toArray,List.set_cons_zero,List.set_cons_succ,dx,dA]
        rfl
       refine eY (i:=8) (N:=some 33) (v:=undef) (a':=?_) #[true,true,true,true,true,true,true,true,true,false,false,false,false,false,false,false] rfl rfl (fY mB.out av) (fun _ _ _ h=>h) (Or.inr ⟨by rfl,rfl⟩) ?_ ?_
       rotate_left
       ·simp only [Act.put,List.setIfInBounds_toArray,List.set_cons_zero,List.set_cons_succ,dx,dA]
        rfl
       refine eY (i:=9) (N:=some 34) (v:=undef) (a':=?_) #[true,true,true,true,true,true,true,true,true,true,false,false,false,false,false,false] rfl rfl (fY mB.out av) (fun _ _ _ h=>h) (Or.inr ⟨by rfl,rfl⟩) ?_ ?_
       rotate_left
       ·simp only [Act.put,List.setIfInBounds_toArray,List.set_cons_zero,List.set_cons_succ,dx,dA]
        rfl
       refine eY (i:=10) (N:=some 35) (v:=undef) (a':=?_) #[true,true,true,true,true,true,true,true,true,true,true,false,false,false,false,false] rfl rfl (fY mB.out av) (fun _ _ _ h=>h) (Or.inr ⟨by rfl,rfl⟩) ?_ ?_
       rotate_left
       ·simp only [Act.put,List.setIfInBounds_toArray,List.set_cons_zero,List.set_cons_succ,dx,dA]
        rfl
       refine eY (i:=11) (N:=some 36) (v:=undef) (a':=?_) #[true,true,true,true,true,true,true,true,true,true,true,true,false,false,false,false] rfl rfl (fY mB.out av) (fun _ _ _ h=>h) (Or.inr ⟨by rfl,rfl⟩) ?_ ?_
       rotate_left
       ·simp only [Act.put,List.setIfInBounds_toArray,List.set_cons_zero,List.set_cons_succ,dx,dA]
        rfl
       refine eY (i:=12) (N:=some 37) (v:=undef) (a':=?_) #[true,true,true,true,true,true,true,true,true,true,true,true,true,false,false,false] rfl rfl (fY mB.out av) (fun _ _ _ h=>h) (Or.inr ⟨by rfl,rfl⟩) ?_ ?_
       rotate_left
       ·simp only [Act.put,List.setIfInBounds_toArray,List.set_cons_zero,List.set_cons_succ,dx,dA]
        rfl
       refine eY (i:=13) (N:=some 38) (v:=undef) (a':=?_) #[true,true,true,true,true,true,true,true,true,true,true,true,true,true,false,false] rfl rfl (fY mB.out av) (fun _ _ _ h=>h) (Or.inr ⟨by rfl,rfl⟩) ?_ ?_
       rotate_left
       ·simp only [Act.put,List.setIfInBounds_toArray,List.set_cons_zero,List.set_cons_succ,dx,dA]
        rfl
       refine eY (i:=14) (N:=some 39) (v:=?_) (a':=?_) #[true,true,true,true,true,true,true,true,true,true,true,true,true,true,true,false] rfl rfl (fY mB.out av) (fun _ _ _ h=>h) (Or.inl ⟨by rfl,?_⟩) ?_ ?_
       rotate_left
       ·intro w'
        go_simp
        with_reducible rfl
       rotate_left
       ·simp only [Act.put,List.setIfInBounds_toArray,List.set_cons_zero,List.set_cons_succ,dx,dA]
        rfl
       refine eY (i:=15) (N:=some 2) (v:=?_) (a':=?_) #[true,true,true,true,true,true,true,true,true,true,true,true,true,true,true,true] rfl rfl (fY mB.out av) (fun _ _ _ h=>h) (Or.inl ⟨by rfl,?_⟩) ?_ ?_
       rotate_left
       ·intro w'
        go_simp
        with_reducible rfl
       rotate_left
       ·simp only [Act.put,List.setIfInBounds_toArray,List.set_cons_zero,List.set_cons_succ,dx,dA]
        rfl
       refine G6 (Ag mB.out av) ?_
       try go_wp2
       go_ret
       exact ⟨cR,kf⟩
     ·replace c16:=Bool.eq_false_iff.mpr c16
      subst c16
      have H1:(some false)=some r:=by rw [if_neg (show ¬ (false=true) by decide)] at H;exact H
      clear H
      have H:=H1
      clear H1
      obtain rfl:=Option.some.inj H
      have Ap:wr.cell? ⟨ig,0,none⟩=some (.string bg):=(af dD.out 0).trans rfl
      have Aq:wr.cell? ⟨ig,1,none⟩=some (.string bI):=(af dD.out 1).trans rfl
      have D7:wr.cell? ⟨ig,2,none⟩=some (.bool true):=(af dD.out 2).trans rfl
      have Ar:=aa dD.out 0
      have Au:=aa dD.out 1
      have D8:=aa dD.out 2
      try go_wp2
      have bB:=ah.mk (aG dD.out)
      have bL:=ah.mk (br HB.out)
      clear dD
      clear HB
      have dD:=bB
      have HB:=bL
      clear bB bL
      refine BW (n:=16) (S:=fun w'=>w'.cell? ⟨ig,0,none⟩=some (.string bg)∧w'.cell? ⟨ig,1,none⟩=some (.string bI)∧w'.cell? ⟨ig,2,none⟩=some (.bool true)) (ds:=[]) #[false,false,false,false,false,false,false,false,false,false,false,false,false,false,false,false] av (by rfl) (by rfl) ⟨(af dD.out 0).trans rfl,(af dD.out 1).trans rfl,(af dD.out 2).trans rfl⟩ (fun hHeld=>?_);refine uJ eG.acp eG.Wm (fun mB OC=>?_)
      generalize wr.drew=w30 at dD HB hHeld ⊢
      refine nE (i:=0) (N:=some 25) (v:=?_) (a':=?_) #[true,false,false,false,false,false,false,false,false,false,false,false,false,false,false,false] rfl rfl (nG mB.out OC.out av) (fun _ _ _ h=>h) (Or.inl ⟨by rfl,?_⟩) hHeld ?_ ?_
      rotate_left
      ·rintro w' ⟨s0,s1,s2⟩
       go_simp
       with_reducible rfl
      rotate_left
      ·simp only [Act.put,List.setIfInBounds_toArray,List.set_cons_zero,List.set_cons_succ,dx,dA]
       rfl
      refine IY (i:=1) (N:=some 26) #[true,true,false,false,false,false,false,false,false,false,false,false,false,false,false,false] rfl rfl (xd mB.out av) bU (fun K hK=>?_)
      refine CD Tryz.func58 av rfl #[.agg #[.string bg,.string bI,.bool true]] (by rfl) rfl rfl cT ?_
      with_reducible refine (eN.calls k1 bg bI true false _ ?aX A15.out).mono ?_
      (case aX=>exact aU.below HG.out kf)
      rintro e w31 ⟨rfl,hb⟩
      refine ⟨_,rfl,?_⟩
      have bB:=ah.mk (aM (g:=ig) (o:= .cells #[.string bg,.string bI,.bool true] 30 (0,0)) sA hb)
      have bL:=ah.mk (ay kf hb)
      clear dD
      clear HB
      have dD:=bB
      have HB:=bL
      clear bB bL
      (try clear hb)
      (try clear hb2)
      (try clear hk)
      (try clear hi)
      refine hK.out _ _ ⟨(af dD.out 0).trans rfl,(af dD.out 1).trans rfl,(af dD.out 2).trans rfl⟩ (fun hHeld=>?_)
      clear hK K
      refine CC (a':=?_) ?_ ?_
      rotate_left
      ·show Act.put _ (some 26) _=_
       simp only [Act.put,List.setIfInBounds_toArray,List.set_cons_zero,List.set_cons_succ,dx,dA]
       rfl
      refine eY (i:=2) (N:=some 27) (v:=?_) (a':=?_) #[true,true,true,false,false,false,false,false,false,false,false,false,false,false,false,false] rfl rfl (fY mB.out av) (fun _ _ _ h=>h) (Or.inl ⟨by rfl,?_⟩) ?_ ?_
      rotate_left
      ·intro w'
       go_simp
       with_reducible rfl
      rotate_left
      ·simp only [Act.put,List.setIfInBounds_toArray,List.set_cons_zero,List.set_cons_succ,dx,dA]
       rfl
      refine eY (i:=3) (N:=some 28) (v:=undef) (a':=?_) #[true,true,true,true,false,false,false,false,false,false,false,false,false,false,false,false] rfl rfl (fY mB.out av) (fun _ _ _ h=>h) (Or.inr ⟨by rfl,rfl⟩) ?_ ?_
      rotate_left
      ·simp only [Act.put,List.setIfInBounds_toArray,List.set_cons_zero,List.set_cons_succ,dx,dA]
       rfl
      refine eY (i:=4) (N:=some 29) (v:=undef) (a':=?_) #[true,true,true,true,true,false,false,false,false,false,false,false,false,false,false,false] rfl rfl (fY mB.out av) (fun _ _ _ h=>h) (Or.inr ⟨by rfl,rfl⟩) ?_ ?_
      rotate_left
      ·simp only [Act.put,List.setIfInBounds_toArray,List.set_cons_zero,List.set_cons_succ,dx,dA]
       rfl
      refine eY (i:=5) (N:=some 30) (v:=undef) (a':=?_) #[true,true,true,true,true,true,false,false,false,false,false,false,false,false,false,false] rfl rfl (fY mB.out av) (fun _ _ _ h=>h) (Or.inr ⟨by rfl,rfl⟩) ?_ ?_
      rotate_left
      ·simp only [Act.put,List.setIfInBounds_toArray,List.set_cons_zero,List.set_cons_succ,dx,dA]
       rfl
      refine eY (i:=6) (N:=some 31) (v:=?_) (a':=?_) #[true,true,true,true,true,true,true,false,false,false,false,false,false,false,false,false] rfl rfl (fY mB.out av) (fun _ _ _ h=>h) (Or.inl ⟨by rfl,?_⟩) ?_ ?_
      rotate_left
      ·intro w'
       go_simp
       with_reducible rfl
      rotate_left
      ·simp only [Act.put,List.setIfInBounds_toArray,List.set_cons_zero,List.set_cons_succ,dx,dA]
       rfl
      refine eY (i:=7) (N:=some 32) (v:=?_) (a':=?_) #[true,true,true,true,true,true,true,true,false,false,false,false,false,false,false,false] rfl rfl (fY mB.out av) (fun _ _ _ h=>h) (Or.inl ⟨by rfl,?_⟩) ?_ ?_
      rotate_left
      ·intro w'
       go_simp
       with_reducible rfl
      rotate_left
      ·simp only [Act.put,List.setIfInBounds_toArray,List.set_cons_zero,List.set_cons_succ,dx,dA]
       rfl
      refine eY (i:=8) (N:=some 33) (v:=undef) (a':=?_) #[true,true,true,true,true,true,true,true,true,false,false,false,false,false,false,false] rfl rfl (fY mB.out av) (fun _ _ _ h=>h) (Or.inr ⟨by rfl,rfl⟩) ?_ ?_
      rotate_left
      ·simp only [Act.put,List.setIfInBounds_toArray,List.set_cons_zero,List.set_cons_succ,dx,dA]
       rfl
      refine eY (i:=9) (N:=some 34) (v:=undef) (a':=?_) #[true,true,true,true,true,true,true,true,true,true,false,false,false,false,false,false] rfl rfl (fY mB.out av) (fun _ _ _ h=>h) (Or.inr ⟨by rfl,rfl⟩) ?_ ?_
      rotate_left
      ·simp only [Act.put,List.setIfInBounds_toArray,List.set_cons_zero,List.set_cons_succ,dx,dA]
       rfl
      refine eY (i:=10) (N:=some 35) (v:=undef) (a':=?_) #[true,true,true,true,true,true,true,true,true,true,true,false,false,false,false,false] rfl rfl (fY mB.out av) (fun _ _ _ h=>h) (Or.inr ⟨by rfl,rfl⟩) ?_ ?_
      rotate_left
      ·simp only [Act.put,List.setIfInBounds_toArray,List.set_cons_zero,List.set_cons_succ,dx,dA]
       rfl
      refine eY (i:=11) (N:=some 36) (v:=undef) (a':=?_) #[true,true,true,true,true,true,true,true,true,true,true,true,false,false,false,false] rfl rfl (fY mB.out av) (fun _ _ _ h=>h) (Or.inr ⟨by rfl,rfl⟩) ?_ ?_
      rotate_left
      ·simp only [Act.put,List.setIfInBounds_toArray,List.set_cons_zero,List.set_cons_succ,dx,dA]
       rfl
      refine eY (i:=12) (N:=some 37) (v:=undef) (a':=?_) #[true,true,true,true,true,true,true,true,true,true,true,true,true,false,false,false] rfl rfl (fY mB.out av) (fun _ _ _ h=>h) (Or.inr ⟨by rfl,rfl⟩) ?_ ?_
      rotate_left
      ·simp only [Act.put,List.setIfInBounds_toArray,List.set_cons_zero,List.set_cons_succ,dx,dA]
       rfl
      refine eY (i:=13) (N:=some 38) (v:=undef) (a':=?_) #[true,true,true,true,true,true,true,true,true,true,true,true,true,true,false,false] rfl rfl (fY mB.out av) (fun _ _ _ h=>h) (Or.inr ⟨by rfl,rfl⟩) ?_ ?_
      rotate_left
      ·simp only [Act.put,List.setIfInBounds_toArray,List.set_cons_zero,List.set_cons_succ,dx,dA]
       rfl
      refine eY (i:=14) (N:=some 39) (v:=?_) (a':=?_) #[true,true,true,true,true,true,true,true,true,true,true,true,true,true,true,false] rfl rfl (fY mB.out av) (fun _ _ _ h=>h) (Or.inl ⟨by rfl,?_⟩) ?_ ?_
      rotate_left
      ·intro w'
       go_simp
       with_reducible rfl
      rotate_left
      ·simp only [Act.put,List.setIfInBounds_toArray,List.set_cons_zero,List.set_cons_succ,dx,dA]
       rfl
      refine eY (i:=15) (N:=some 2) (v:=?_) (a':=?_) #[true,true,true,true,true,true,true,true,true,true,true,true,true,true,true,true] rfl rfl (fY mB.out av) (fun _ _ _ h=>h) (Or.inl ⟨by rfl,?_⟩) ?_ ?_
      rotate_left
      ·intro w'
       go_simp
       with_reducible rfl
      rotate_left
      ·simp only [Act.put,List.setIfInBounds_toArray,List.set_cons_zero,List.set_cons_succ,dx,dA]
       rfl
      refine G6 (Ag mB.out av) ?_
      try go_wp2
      go_ret
      exact ⟨cR,kf⟩
    ·replace c14:=Bool.eq_false_iff.mpr c14
     subst c14
     have H1:((eN.f k1 bg bI false).bind fun Tk=>(if Tk=true then ((lC.f k1 bI).bind fun GP=>(some GP)) else (some false)))=some r:=by rw [if_neg (show ¬ (false=true) by decide)] at H;exact H
     clear H
     have H:=H1
     clear H1
     replace H:=Option.bind_eq_some_iff.mp H
     obtain ⟨Tk,VQ,H⟩:=H
     replace H:(if Tk=true then ((lC.f k1 bI).bind fun GP=>(some GP)) else (some false))=some r:=H
     have A32:=ah.mk VQ
     clear VQ
     by_cases JV:Tk=true
     ·subst JV
      have H1:((lC.f k1 bI).bind fun GP=>(some GP))=some r:=by rw [if_pos rfl] at H;exact H
      clear H
      have H:=H1
      clear H1
      replace H:=Option.bind_eq_some_iff.mp H
      obtain ⟨GP,VL,H⟩:=H
      replace H:(some GP)=some r:=H
      have A34:=ah.mk VL
      clear VL
      obtain rfl:=Option.some.inj H
      have AR:wr.cell? ⟨ig,0,none⟩=some (.string bg):=(af dD.out 0).trans rfl
      have AU:wr.cell? ⟨ig,1,none⟩=some (.string bI):=(af dD.out 1).trans rfl
      have AV:wr.cell? ⟨ig,2,none⟩=some (.bool false):=(af dD.out 2).trans rfl
      have AW:=aa dD.out 0
      have AX:=aa dD.out 1
      have AY:=aa dD.out 2
      go_wp2_with (first|((with_reducible refine aQ (f:=58) rfl ?_);refine cu (some 41) rfl rfl Tryz.func58 av rfl #[.agg #[.string bg,.string bI,.bool false]] rfl cT ?_;(with_reducible refine (eN.calls k1 bg bI false true _ ?aX A32.out).mono ?_);(case aX=>exact aU.below HG.out kf);rintro e w36 ⟨rfl,hb⟩;refine ⟨_,rfl,?_⟩;have bB:=ah.mk (aM (g:=ig) (o:= .cells #[.string bg,.string bI,.bool false] 30 (0,0)) sA hb);have bL:=ah.mk (ay kf hb);clear dD;clear HB;have dD:=bB;have HB:=bL;clear bB bL;(try clear hb);(try clear hb2);(try clear hk);(try clear hi);have Sg:w36.cell? ⟨ig,0,none⟩=some (.string bg):=(af dD.out 0).trans rfl;have Sh:w36.cell? ⟨ig,1,none⟩=some (.string bI):=(af dD.out 1).trans rfl;have Si:w36.cell? ⟨ig,2,none⟩=some (.bool false):=(af dD.out 2).trans rfl;have Sj:=aa dD.out 0;have Sk:=aa dD.out 1;have Sl:=aa dD.out 2)|(go_at_call 65;(with_reducible refine (lC.calls k1 bI GP _ ?aX A34.out).mono ?_);(case aX=>exact aU.below HG.out kf);rintro e Ua ⟨rfl,hb⟩;have bB:=ah.mk (aM (g:=ig) (o:= .cells #[.string bg,.string bI,.bool false] 30 (0,0)) sA hb);have bL:=ah.mk (ay kf hb);clear dD;clear HB;have dD:=bB;have HB:=bL;clear bB bL;(try clear hb);(try clear hb2);(try clear hk);(try clear hi)))
      go_ret
      exact ⟨cR,kf⟩
     ·replace JV:=Bool.eq_false_iff.mpr JV
      subst JV
      have H1:(some false)=some r:=by rw [if_neg (show ¬ (false=true) by decide)] at H;exact H
      clear H
      have H:=H1
      clear H1
      obtain rfl:=Option.some.inj H
      have AZ:wr.cell? ⟨ig,0,none⟩=some (.string bg):=(af dD.out 0).trans rfl
      have Ba:wr.cell? ⟨ig,1,none⟩=some (.string bI):=(af dD.out 1).trans rfl
      have Rq:wr.cell? ⟨ig,2,none⟩=some (.bool false):=(af dD.out 2).trans rfl
      have Bb:=aa dD.out 0
      have Bc:=aa dD.out 1
      have Rs:=aa dD.out 2
      go_wp2_with (first|((with_reducible refine aQ (f:=58) rfl ?_);refine cu (some 41) rfl rfl Tryz.func58 av rfl #[.agg #[.string bg,.string bI,.bool false]] rfl cT ?_;(with_reducible refine (eN.calls k1 bg bI false false _ ?aX A32.out).mono ?_);(case aX=>exact aU.below HG.out kf);rintro e w40 ⟨rfl,hb⟩;refine ⟨_,rfl,?_⟩;have bB:=ah.mk (aM (g:=ig) (o:= .cells #[.string bg,.string bI,.bool false] 30 (0,0)) sA hb);have bL:=ah.mk (ay kf hb);clear dD;clear HB;have dD:=bB;have HB:=bL;clear bB bL;(try clear hb);(try clear hb2);(try clear hk);(try clear hi)))
      go_ret
      exact ⟨cR,kf⟩
end Go.Proofs.YtokpnfljjjjikaaGreatDoor.pJ
