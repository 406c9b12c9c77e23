import Derived.Test.YtokpnfljjjjikaaGreatDoorZo
import Derived.Test.YtokpnfljjjjikaaGreatDoorQCbx0
import Derived.Test.YtokpnfljjjjikaaGreatDoorQCbx3
import Derived.Test.YtokpnfljjjjikaaGreatDoorQCbx6
namespace Go.Proofs.YtokpnfljjjjikaaGreatDoor.nX
open Go.RowKit Go.Proofs.aj.bW Go.Proofs.aj.fW Go.Proofs.aj.dz
attribute [local go_sem] jg jh kO kP iK iL ji jk
set_option linter.unusedVariables false
set_option linter.unusedSimpArgs false
def cm.l0:Nat→List Int→ByteArray→Int→Option (ByteArray×Bool×ByteArray×Int)
 | 0,_,_,_ =>none
 |k + 1,x6,gZ,fS=>if fS < (gZ.size:Int) then (if 0≤fS then (if (bt gZ fS)=34 then (some (strOfNums x6,true,gZ,wrap64 (fS + 1))) else (if (bt gZ fS)=92 then ((dn.f gZ (wrap64 (fS + 1))).bind fun AQ=>(if AQ.1 < 32 then (some ((⟨#[]⟩:ByteArray),false,AQ.2.1,wrap64 (AQ.2.2 + 1))) else (if AQ.1 > 126 then (some ((⟨#[]⟩:ByteArray),false,AQ.2.1,wrap64 (AQ.2.2 + 1))) else (if x6.length < 140737488355328 then (cm.l0 k (x6 ++ [AQ.1]) AQ.2.1 (wrap64 (AQ.2.2 + 1))) else (none))))) else (if (bt gZ fS) < 32 then (some ((⟨#[]⟩:ByteArray),false,gZ,wrap64 (fS + 1))) else (if (bt gZ fS) > 126 then (some ((⟨#[]⟩:ByteArray),false,gZ,wrap64 (fS + 1))) else (if x6.length < 140737488355328 then (cm.l0 k (x6 ++ [bt gZ fS]) gZ (wrap64 (fS + 1))) else (none)))))) else (none)) else (some ((⟨#[]⟩:ByteArray),false,gZ,fS))
def cm.f (k:Nat) (eY:ByteArray) (cW:Int):Option (ByteArray×Bool×ByteArray×Int):=(br.f eY cW 34).bind fun qV=>(if qV.1=true then (cm.l0 k ([]:List Int) qV.2.1 qV.2.2) else ((aI.f k qV.2.1 qV.2.2 46).bind fun kr=>(if 0≤qV.2.2 then (if qV.2.2≤kr.2.2 then (if kr.2.2≤(kr.2.1.size:Int) then (some (kr.2.1.extract (qV.2.2:Int).toNat (kr.2.2:Int).toNat,kr.1,kr.2.1,kr.2.2)) else (none)) else (none)) else (none))))
theorem cm.fR:∀ k,(∀ y0 y1 y2,cR (cm.l0 k y0 y1 y2) (cm.l0 (k + 1) y0 y1 y2))
 | 0=>fun _ _ _ r h=>by simp [cm.l0] at h
 |k + 1=>by
  have nY:=cm.fR k
  ·intro y0 y1 y2
   unfold cm.l0
   repeat' first
   |(with_reducible exact nY _ _ _)
   |(with_reducible exact aI.mono _ _ _ _)
   |(with_reducible exact cR.refl _)
   |(with_reducible exact cR.none _)
   |(with_reducible refine cR.ite ?_ ?_)
   |(with_reducible refine cR.bind ?_ (fun _ =>?_))
   |refine cR.ite ?_ ?_
   |refine cR.bind ?_ (fun _ =>?_)
theorem cm.mono:∀ a0 a1 k,cR (cm.f k a0 a1) (cm.f (k + 1) a0 a1):=by
 intro a0 a1 k
 have nY:=cm.fR k
 unfold cm.f
 repeat' first
  |(with_reducible exact nY _ _ _)
  |(with_reducible exact aI.mono _ _ _ _)
  |(with_reducible exact cR.refl _)
  |(with_reducible exact cR.none _)
  |(with_reducible refine cR.ite ?_ ?_)
  |(with_reducible refine cR.bind ?_ (fun _ =>?_))
  |refine cR.ite ?_ ?_
  |refine cR.bind ?_ (fun _ =>?_)
set_option maxHeartbeats 8000000 in
set_option maxRecDepth 100000 in
theorem cm.calls (k:Nat) (g:Nat) (eY:ByteArray) (cW:Int) (r1:ByteArray) (r2:Bool) (r3:ByteArray) (r4:Int) (w0 w:World) (hI:av w0 w g eY cW) (hB:Below w0.heap.size w0 w) (h:cm.f k eY cW=some (r1,r2,r3,r4)):
 Calls Tryz.prog 123 #[.pointer (some ⟨g,0,none⟩)] w fun e w'=>e= .returned (.tuple #[.string r1,.bool r2])∧av w0 w' g r3 r4∧Below w0.heap.size w0 w'∧bA w w' g none:=by
 have dO:=ah.mk hI
 have HK:=ah.mk (bA.refl w g none)
 have HL:=ah.mk hB.size
 clear hI
 have TW:=ah.mk hB.size
 have HB:=ah.mk hB
 clear hB
 have H:((br.f eY cW 34).bind fun qV=>(if qV.1=true then (cm.l0 k ([]:List Int) qV.2.1 qV.2.2) else ((aI.f k qV.2.1 qV.2.2 46).bind fun kr=>(if 0≤qV.2.2 then (if qV.2.2≤kr.2.2 then (if kr.2.2≤(kr.2.1.size:Int) then (some (kr.2.1.extract (qV.2.2:Int).toNat (kr.2.2:Int).toNat,kr.1,kr.2.1,kr.2.2)) else (none)) else (none)) else (none)))))=some (r1,r2,r3,r4):=h
 clear h
 replace H:=Option.bind_eq_some_iff.mp H
 obtain ⟨⟨t163,t164,t165⟩,nK,H⟩:=H
 replace H:(if t163=true then (cm.l0 k ([]:List Int) t164 t165) else ((aI.f k t164 t165 46).bind fun kr=>(if 0≤t165 then (if t165≤kr.2.2 then (if kr.2.2≤(kr.2.1.size:Int) then (some (kr.2.1.extract (t165:Int).toNat (kr.2.2:Int).toNat,kr.1,kr.2.1,kr.2.2)) else (none)) else (none)) else (none))))=some (r1,r2,r3,r4):=H
 have A2:=ah.mk nK
 clear nK
 by_cases c3:t163=true
 ·subst c3
  have H1:(cm.l0 k ([]:List Int) t164 t165)=some (r1,r2,r3,r4):=by rw [if_pos rfl] at H;exact H
  clear H
  have H:=H1
  clear H1
  have H':=ah.mk H
  clear H
  go_enter Tryz.func123,Tryz.ntmps123
  go_wp2_with (first|(go_at_call 56;(with_reducible refine (br.calls g eY cW 34 true t164 t165 w0 _ ?aX ?bS A2.out).mono ?_);(case aX=>repeat (first|(with_reducible first|exact dO.out|apply av.alloc|apply av.drewN|apply av.drew|apply av.fQ|apply av.fM)|exact dO.out));(case bS=>repeat (first|(with_reducible first|exact HB.out|apply az|apply aB|apply bu|refine bp ?_ (av.ge dO.out))|exact HB.out));rintro e w4 ⟨rfl,hi,hb,hk⟩;have bD:=ah.mk (bA.trans eH hk (.inl rfl));have bN:=ah.mk (hb);have cz:=ah.mk (hi);clear HK;clear HB;clear dO;have HK:=bD;have HB:=bN;have dO:=cz;clear bD bN cz;(try clear hb);(try clear hb2);(try clear hk);(try clear hi)))
  repeat (go_quiet (first|(go_at_call 56;(with_reducible refine (br.calls g eY cW 34 true t164 t165 w0 _ ?aX ?bS A2.out).mono ?_);(case aX=>repeat (first|(with_reducible first|exact dO.out|apply av.alloc|apply av.drewN|apply av.drew|apply av.fQ|apply av.fM)|exact dO.out));(case bS=>repeat (first|(with_reducible first|exact HB.out|apply az|apply aB|apply bu|refine bp ?_ (av.ge dO.out))|exact HB.out));rintro e w4 ⟨rfl,hi,hb,hk⟩;have bD:=ah.mk (bA.trans eH hk (.inl rfl));have bN:=ah.mk (hb);have cz:=ah.mk (hi);clear HK;clear HB;clear dO;have HK:=bD;have HB:=bN;have dO:=cz;clear bD bN cz;(try clear hb);(try clear hb2);(try clear hk);(try clear hi)));try go_wp2_with (first|(go_at_call 56;(with_reducible refine (br.calls g eY cW 34 true t164 t165 w0 _ ?aX ?bS A2.out).mono ?_);(case aX=>repeat (first|(with_reducible first|exact dO.out|apply av.alloc|apply av.drewN|apply av.drew|apply av.fQ|apply av.fM)|exact dO.out));(case bS=>repeat (first|(with_reducible first|exact HB.out|apply az|apply aB|apply bu|refine bp ?_ (av.ge dO.out))|exact HB.out));rintro e w4 ⟨rfl,hi,hb,hk⟩;have bD:=ah.mk (bA.trans eH hk (.inl rfl));have bN:=ah.mk (hb);have cz:=ah.mk (hi);clear HK;clear HB;clear dO;have HK:=bD;have HB:=bN;have dO:=cz;clear bD bN cz;(try clear hb);(try clear hb2);(try clear hk);(try clear hi))))
  go_loopg [6] k (fun kq v6 w'=>∃ (nD:List Int) (bC:ByteArray) (aY:Int),ah (cm.l0 kq nD bC aY=some (r1,r2,r3,r4))∧ah (kq≤k)∧ah (Kd.R (Kd.int .u8) 5 w' w.heap.size (fun _ =>True) v6 nD)∧ah (av w0 w' g bC aY)∧ah (bA w w' g none)∧ah (Below w0.heap.size w0 w'))
  case atStart=>exact ⟨(([]:List Int)),(t164),(t165),H',⟨Nat.le_refl _⟩,⟨BG⟩,⟨iy⟩,⟨eH⟩,⟨iw⟩⟩
  case round=>
   clear H'
   try clear c1
   try clear p2
   try clear c3
   obtain ⟨nD,bC,aY,HA,uC,l6,dO,HK,HB⟩:=hrel
   cases gk with
   |zero=>exact absurd HA.out (by simp [cm.l0])
   |succ k1=>
    have H:=HA.out
    clear HA
    simp only [cm.l0] at H
    by_cases c5:aY < (bC.size:Int)
    ·rw [if_pos c5] at H
     have tR:decide (aY < (bC.size:Int))=true:=decide_eq_true c5
     clear c5
     by_cases c6: 0≤aY
     ·rw [if_pos c6] at H
      have pF:decide (0≤aY)=true:=decide_eq_true c6
      clear c6
      by_cases c8:(bt bC aY)=34
      ·rw [if_pos c8] at H
       have IM:((bt bC aY) == 34)=true:=beq_iff_eq.mpr c8
       have ab1:((bt bC aY) != 34)=false:=bne_eq_false_iff_eq.mpr c8
       clear c8
       simp only [Option.some.injEq,Prod.mk.injEq] at H
       obtain ⟨rfl,rfl,rfl,rfl⟩:=H
       obtain ⟨pR,JT⟩:=dO.out
       have qp:=dW pR
       have qq:=dQ pR
       have qu:=aa pR 0
       have qw:=aa pR 1
       clear pR JT
       have p7: 0≤(aY:Int):=of_decide_eq_true cX
       have q7:aY < (bC.size:Int):=of_decide_eq_true cX
       have C7:=gV bC aY
       replace p7:=eq_true p7
       replace q7:=eq_true q7
       have aoX:∀ n_:Nat,Sem.run Tryz.prog (convert 23 9 u6) ((wr.drewN n_).setCell ⟨g,1,none⟩ (.int .i64 (wrap64 (aY + 1))))= .ok (.string (strOfNums nD)) ((wr.drewN n_).setCell ⟨g,1,none⟩ (.int .i64 (wrap64 (aY + 1)))):=fun n_ =>NZ (P:=Tryz.prog) Tryz.underlying23 Tryz.underlying5 Tryz.underlying9 (Kd.UE tM)
       go_wp2
       repeat (go_quiet (fail);try go_wp2)
       go_ret2
       exact ⟨cZ,iy,iw,eH⟩
      ·rw [if_neg c8] at H
       have IM:((bt bC aY) == 34)=false:=beq_eq_false_iff_ne.mpr c8
       have ab1:((bt bC aY) != 34)=true:=bne_iff_ne.mpr c8
       by_cases c11:(bt bC aY)=92
       ·rw [if_pos c11] at H
        have za:((bt bC aY) == 92)=true:=beq_iff_eq.mpr c11
        have LG:((bt bC aY) != 92)=false:=bne_eq_false_iff_eq.mpr c11
        clear c11
        replace H:=Option.bind_eq_some_iff.mp H
        obtain ⟨⟨t169,t170,t171⟩,zW,H⟩:=H
        replace H:(if t169 < 32 then (some ((⟨#[]⟩:ByteArray),false,t170,wrap64 (t171 + 1))) else (if t169 > 126 then (some ((⟨#[]⟩:ByteArray),false,t170,wrap64 (t171 + 1))) else (if nD.length < 140737488355328 then (cm.l0 k1 (nD ++ [t169]) t170 (wrap64 (t171 + 1))) else (none))))=some (r1,r2,r3,r4):=H
        have Gp:=ah.mk zW
        clear zW
        by_cases c13:t169 < 32
        ·rw [if_pos c13] at H
         have E6:decide (t169 < 32)=true:=decide_eq_true c13
         clear c13
         simp only [Option.some.injEq,Prod.mk.injEq] at H
         obtain ⟨rfl,rfl,rfl,rfl⟩:=H
         obtain ⟨L4,aep⟩:=dO.out
         have td:=dW L4
         have tj:=dQ L4
         have tq:=aa L4 0
         have tu:=aa L4 1
         clear L4 aep
         have p7: 0≤(aY:Int):=of_decide_eq_true cX
         have q7:aY < (bC.size:Int):=of_decide_eq_true cX
         have C7:=gV bC aY
         replace p7:=eq_true p7
         replace q7:=eq_true q7
         go_wp2_with (first|(go_at_call 115;(with_reducible refine (dn.calls g bC (wrap64 (aY + 1)) t169 t170 t171 w0 _ ?aX ?bS Gp.out).mono ?_);(case aX=>repeat (first|(with_reducible first|exact dO.out|apply av.alloc|apply av.drewN|apply av.drew|apply av.fQ|apply av.fM)|exact dO.out));(case bS=>repeat (first|(with_reducible first|exact HB.out|apply az|apply aB|apply bu|refine bp ?_ (av.ge dO.out))|exact HB.out));rintro e zV ⟨rfl,hi,hb,hk⟩;have bD:=ah.mk (Kd.gi (Kd.sw (av.apart (show av w0 _ g bC (wrap64 (aY + 1)) from by repeat (first|(with_reducible first|exact dO.out|apply av.alloc|apply av.drewN|apply av.drew|apply av.fQ|apply av.fM)|exact dO.out)) tM bR) hk (fun _ h=>h.2)) (fun _ h=>h.1));have bN:=ah.mk (bA.trans eH hk (.inl rfl));have cz:=ah.mk (hb);have cY:=ah.mk (hi);clear l6;clear HK;clear HB;clear dO;have l6:=bD;have HK:=bN;have HB:=cz;have dO:=cY;clear bD bN cz cY;(try clear hb);(try clear hb2);(try clear hk);(try clear hi);obtain ⟨qW,L5⟩:=dO.out;have ni:=dW qW;have nj:=dQ qW;have nk:=aa qW 0;have nr:=aa qW 1;clear qW L5))
         repeat (go_quiet (first|(go_at_call 115;(with_reducible refine (dn.calls g bC (wrap64 (aY + 1)) t169 t170 t171 w0 _ ?aX ?bS Gp.out).mono ?_);(case aX=>repeat (first|(with_reducible first|exact dO.out|apply av.alloc|apply av.drewN|apply av.drew|apply av.fQ|apply av.fM)|exact dO.out));(case bS=>repeat (first|(with_reducible first|exact HB.out|apply az|apply aB|apply bu|refine bp ?_ (av.ge dO.out))|exact HB.out));rintro e zV ⟨rfl,hi,hb,hk⟩;have bD:=ah.mk (Kd.gi (Kd.sw (av.apart (show av w0 _ g bC (wrap64 (aY + 1)) from by repeat (first|(with_reducible first|exact dO.out|apply av.alloc|apply av.drewN|apply av.drew|apply av.fQ|apply av.fM)|exact dO.out)) tM bR) hk (fun _ h=>h.2)) (fun _ h=>h.1));have bN:=ah.mk (bA.trans eH hk (.inl rfl));have cz:=ah.mk (hb);have cY:=ah.mk (hi);clear l6;clear HK;clear HB;clear dO;have l6:=bD;have HK:=bN;have HB:=cz;have dO:=cY;clear bD bN cz cY;(try clear hb);(try clear hb2);(try clear hk);(try clear hi);obtain ⟨qW,L5⟩:=dO.out;have ni:=dW qW;have nj:=dQ qW;have nk:=aa qW 0;have nr:=aa qW 1;clear qW L5));try go_wp2_with (first|(go_at_call 115;(with_reducible refine (dn.calls g bC (wrap64 (aY + 1)) t169 t170 t171 w0 _ ?aX ?bS Gp.out).mono ?_);(case aX=>repeat (first|(with_reducible first|exact dO.out|apply av.alloc|apply av.drewN|apply av.drew|apply av.fQ|apply av.fM)|exact dO.out));(case bS=>repeat (first|(with_reducible first|exact HB.out|apply az|apply aB|apply bu|refine bp ?_ (av.ge dO.out))|exact HB.out));rintro e zV ⟨rfl,hi,hb,hk⟩;have bD:=ah.mk (Kd.gi (Kd.sw (av.apart (show av w0 _ g bC (wrap64 (aY + 1)) from by repeat (first|(with_reducible first|exact dO.out|apply av.alloc|apply av.drewN|apply av.drew|apply av.fQ|apply av.fM)|exact dO.out)) tM bR) hk (fun _ h=>h.2)) (fun _ h=>h.1));have bN:=ah.mk (bA.trans eH hk (.inl rfl));have cz:=ah.mk (hb);have cY:=ah.mk (hi);clear l6;clear HK;clear HB;clear dO;have l6:=bD;have HK:=bN;have HB:=cz;have dO:=cY;clear bD bN cz cY;(try clear hb);(try clear hb2);(try clear hk);(try clear hi);obtain ⟨qW,L5⟩:=dO.out;have ni:=dW qW;have nj:=dQ qW;have nk:=aa qW 0;have nr:=aa qW 1;clear qW L5)))
         go_ret2
         exact ⟨cZ,iy,iw,eH⟩
        ·rw [if_neg c13] at H
         have E6:decide (t169 < 32)=false:=decide_eq_false c13
         clear c13
         by_cases c17:t169 > 126
         ·rw [if_pos c17] at H
          have Rf:decide (126 < t169)=true:=decide_eq_true c17
          clear c17
          simp only [Option.some.injEq,Prod.mk.injEq] at H
          obtain ⟨rfl,rfl,rfl,rfl⟩:=H
          obtain ⟨L6,aer⟩:=dO.out
          have vF:=dW L6
          have vG:=dQ L6
          have vH:=aa L6 0
          have vI:=aa L6 1
          clear L6 aer
          have p7: 0≤(aY:Int):=of_decide_eq_true cX
          have q7:aY < (bC.size:Int):=of_decide_eq_true cX
          have C7:=gV bC aY
          replace p7:=eq_true p7
          replace q7:=eq_true q7
          go_wp2_with (first|(go_at_call 115;(with_reducible refine (dn.calls g bC (wrap64 (aY + 1)) t169 t170 t171 w0 _ ?aX ?bS Gp.out).mono ?_);(case aX=>repeat (first|(with_reducible first|exact dO.out|apply av.alloc|apply av.drewN|apply av.drew|apply av.fQ|apply av.fM)|exact dO.out));(case bS=>repeat (first|(with_reducible first|exact HB.out|apply az|apply aB|apply bu|refine bp ?_ (av.ge dO.out))|exact HB.out));rintro e LQ ⟨rfl,hi,hb,hk⟩;have bD:=ah.mk (Kd.gi (Kd.sw (av.apart (show av w0 _ g bC (wrap64 (aY + 1)) from by repeat (first|(with_reducible first|exact dO.out|apply av.alloc|apply av.drewN|apply av.drew|apply av.fQ|apply av.fM)|exact dO.out)) tM bR) hk (fun _ h=>h.2)) (fun _ h=>h.1));have bN:=ah.mk (bA.trans eH hk (.inl rfl));have cz:=ah.mk (hb);have cY:=ah.mk (hi);clear l6;clear HK;clear HB;clear dO;have l6:=bD;have HK:=bN;have HB:=cz;have dO:=cY;clear bD bN cz cY;(try clear hb);(try clear hb2);(try clear hk);(try clear hi);obtain ⟨qX,L8⟩:=dO.out;have En:=dW qX;have Eo:=dQ qX;have Ep:=aa qX 0;have Er:=aa qX 1;clear qX L8))
          repeat (go_quiet (first|(go_at_call 115;(with_reducible refine (dn.calls g bC (wrap64 (aY + 1)) t169 t170 t171 w0 _ ?aX ?bS Gp.out).mono ?_);(case aX=>repeat (first|(with_reducible first|exact dO.out|apply av.alloc|apply av.drewN|apply av.drew|apply av.fQ|apply av.fM)|exact dO.out));(case bS=>repeat (first|(with_reducible first|exact HB.out|apply az|apply aB|apply bu|refine bp ?_ (av.ge dO.out))|exact HB.out));rintro e LQ ⟨rfl,hi,hb,hk⟩;have bD:=ah.mk (Kd.gi (Kd.sw (av.apart (show av w0 _ g bC (wrap64 (aY + 1)) from by repeat (first|(with_reducible first|exact dO.out|apply av.alloc|apply av.drewN|apply av.drew|apply av.fQ|apply av.fM)|exact dO.out)) tM bR) hk (fun _ h=>h.2)) (fun _ h=>h.1));have bN:=ah.mk (bA.trans eH hk (.inl rfl));have cz:=ah.mk (hb);have cY:=ah.mk (hi);clear l6;clear HK;clear HB;clear dO;have l6:=bD;have HK:=bN;have HB:=cz;have dO:=cY;clear bD bN cz cY;(try clear hb);(try clear hb2);(try clear hk);(try clear hi);obtain ⟨qX,L8⟩:=dO.out;have En:=dW qX;have Eo:=dQ qX;have Ep:=aa qX 0;have Er:=aa qX 1;clear qX L8));try go_wp2_with (first|(go_at_call 115;(with_reducible refine (dn.calls g bC (wrap64 (aY + 1)) t169 t170 t171 w0 _ ?aX ?bS Gp.out).mono ?_);(case aX=>repeat (first|(with_reducible first|exact dO.out|apply av.alloc|apply av.drewN|apply av.drew|apply av.fQ|apply av.fM)|exact dO.out));(case bS=>repeat (first|(with_reducible first|exact HB.out|apply az|apply aB|apply bu|refine bp ?_ (av.ge dO.out))|exact HB.out));rintro e LQ ⟨rfl,hi,hb,hk⟩;have bD:=ah.mk (Kd.gi (Kd.sw (av.apart (show av w0 _ g bC (wrap64 (aY + 1)) from by repeat (first|(with_reducible first|exact dO.out|apply av.alloc|apply av.drewN|apply av.drew|apply av.fQ|apply av.fM)|exact dO.out)) tM bR) hk (fun _ h=>h.2)) (fun _ h=>h.1));have bN:=ah.mk (bA.trans eH hk (.inl rfl));have cz:=ah.mk (hb);have cY:=ah.mk (hi);clear l6;clear HK;clear HB;clear dO;have l6:=bD;have HK:=bN;have HB:=cz;have dO:=cY;clear bD bN cz cY;(try clear hb);(try clear hb2);(try clear hk);(try clear hi);obtain ⟨qX,L8⟩:=dO.out;have En:=dW qX;have Eo:=dQ qX;have Ep:=aa qX 0;have Er:=aa qX 1;clear qX L8)))
          go_ret2
          exact ⟨cZ,iy,iw,eH⟩
         ·rw [if_neg c17] at H
          have Rf:decide (126 < t169)=false:=decide_eq_false c17
          clear c17
          by_cases c21:nD.length < 140737488355328
          ·rw [if_pos c21] at H
           have Vb:=ah.mk c21
           clear c21
           obtain ⟨aes,L9⟩:∃ y_:List Int,y_=(nD ++ [t169]):=⟨_,rfl⟩
           replace H:(cm.l0 k1 aes t170 (wrap64 (t171 + 1)))=some (r1,r2,r3,r4):=by first|(rw [L9];with_reducible exact H)|(have OB:=(Option.bind_some _ _).symm.trans H;rw [L9];with_reducible exact OB)|(have OB:=(Option.bind_some _ _).symm.trans H;with_reducible exact OB)|with_reducible exact H|(rw [L9];exact H)|exact H
           have Vc:=ah.mk L9
           clear L9
           have H':=ah.mk H
           clear H
           obtain ⟨Ma,aet⟩:=dO.out
           have yj:=dW Ma
           have yl:=dQ Ma
           have ym:=aa Ma 0
           have yq:=aa Ma 1
           clear Ma aet
           have p7: 0≤(aY:Int):=of_decide_eq_true cX
           have q7:aY < (bC.size:Int):=of_decide_eq_true cX
           have C7:=gV bC aY
           replace p7:=eq_true p7
           replace q7:=eq_true q7
           go_wp2_with (first|(go_at_call 115;(with_reducible refine (dn.calls g bC (wrap64 (aY + 1)) t169 t170 t171 w0 _ ?aX ?bS Gp.out).mono ?_);(case aX=>repeat (first|(with_reducible first|exact dO.out|apply av.alloc|apply av.drewN|apply av.drew|apply av.fQ|apply av.fM)|exact dO.out));(case bS=>repeat (first|(with_reducible first|exact HB.out|apply az|apply aB|apply bu|refine bp ?_ (av.ge dO.out))|exact HB.out));rintro e Mb ⟨rfl,hi,hb,hk⟩;have bD:=ah.mk (Kd.gi (Kd.sw (av.apart (show av w0 _ g bC (wrap64 (aY + 1)) from by repeat (first|(with_reducible first|exact dO.out|apply av.alloc|apply av.drewN|apply av.drew|apply av.fQ|apply av.fM)|exact dO.out)) tM bR) hk (fun _ h=>h.2)) (fun _ h=>h.1));have bN:=ah.mk (bA.trans eH hk (.inl rfl));have cz:=ah.mk (hb);have cY:=ah.mk (hi);clear l6;clear HK;clear HB;clear dO;have l6:=bD;have HK:=bN;have HB:=cz;have dO:=cY;clear bD bN cz cY;(try clear hb);(try clear hb2);(try clear hk);(try clear hi);obtain ⟨qY,Mc⟩:=dO.out;have yt:=dW qY;have yu:=dQ qY;have yw:=aa qY 0;have yx:=aa qY 1;clear qY Mc)|((with_reducible refine lF (b:= .append) (xs:=#[.tmp 77,.tmp 79]) rfl ?_);at_builtin;refine Kd.qI (Kd.int .u8) w.heap.size rfl (.tmp 77) (.tmp 79) 23 5 (.int .u8 0) 1 rfl Tryz.underlying23 GR rfl bR aq u6 nD t169 [.int .u8 t169] (fun _ =>True) (fun _ =>False) rfl sP ?aP (fun _ hk=>hk.elim) ?aF ?aO (Below.refl _ _) ?aS ?aL ?_;(case aP=>exact rfl);(case aF=>exact (fun _ _ =>trivial));(case aO=>exact NW);(case aS=>exact (oU (w:=w) (g:=g) (row:=none) eH));(case aL=>have:=Vb.out;omega);intro v173 TX ho hb hg hat;rw [← Vc.out] at ho;have bD:=ah.mk (av.grown iy hg (av.own_ne dO.out l6.out bR));have bN:=ah.mk (bq iw HL.out hb);have cz:=ah.mk (bA.trans eH (bA.pL hg g) (Kd.uF l6.out));have cY:=ah.mk (ho);clear dO;clear HB;clear HK;clear l6;have dO:=bD;have HB:=bN;have HK:=cz;have Vd:=cY;clear bD bN cz cY;clear ho hb hg hat))
           repeat (go_quiet (first|(go_at_call 115;(with_reducible refine (dn.calls g bC (wrap64 (aY + 1)) t169 t170 t171 w0 _ ?aX ?bS Gp.out).mono ?_);(case aX=>repeat (first|(with_reducible first|exact dO.out|apply av.alloc|apply av.drewN|apply av.drew|apply av.fQ|apply av.fM)|exact dO.out));(case bS=>repeat (first|(with_reducible first|exact HB.out|apply az|apply aB|apply bu|refine bp ?_ (av.ge dO.out))|exact HB.out));rintro e Mb ⟨rfl,hi,hb,hk⟩;have bD:=ah.mk (Kd.gi (Kd.sw (av.apart (show av w0 _ g bC (wrap64 (aY + 1)) from by repeat (first|(with_reducible first|exact dO.out|apply av.alloc|apply av.drewN|apply av.drew|apply av.fQ|apply av.fM)|exact dO.out)) tM bR) hk (fun _ h=>h.2)) (fun _ h=>h.1));have bN:=ah.mk (bA.trans eH hk (.inl rfl));have cz:=ah.mk (hb);have cY:=ah.mk (hi);clear l6;clear HK;clear HB;clear dO;have l6:=bD;have HK:=bN;have HB:=cz;have dO:=cY;clear bD bN cz cY;(try clear hb);(try clear hb2);(try clear hk);(try clear hi);obtain ⟨qY,Mc⟩:=dO.out;have yt:=dW qY;have yu:=dQ qY;have yw:=aa qY 0;have yx:=aa qY 1;clear qY Mc)|((with_reducible refine lF (b:= .append) (xs:=#[.tmp 77,.tmp 79]) rfl ?_);at_builtin;refine Kd.qI (Kd.int .u8) w.heap.size rfl (.tmp 77) (.tmp 79) 23 5 (.int .u8 0) 1 rfl Tryz.underlying23 GR rfl bR aq u6 nD t169 [.int .u8 t169] (fun _ =>True) (fun _ =>False) rfl sP ?aP (fun _ hk=>hk.elim) ?aF ?aO (Below.refl _ _) ?aS ?aL ?_;(case aP=>exact rfl);(case aF=>exact (fun _ _ =>trivial));(case aO=>exact NW);(case aS=>exact (oU (w:=w) (g:=g) (row:=none) eH));(case aL=>have:=Vb.out;omega);intro v173 TX ho hb hg hat;rw [← Vc.out] at ho;have bD:=ah.mk (av.grown iy hg (av.own_ne dO.out l6.out bR));have bN:=ah.mk (bq iw HL.out hb);have cz:=ah.mk (bA.trans eH (bA.pL hg g) (Kd.uF l6.out));have cY:=ah.mk (ho);clear dO;clear HB;clear HK;clear l6;have dO:=bD;have HB:=bN;have HK:=cz;have Vd:=cY;clear bD bN cz cY;clear ho hb hg hat));try go_wp2_with (first|(go_at_call 115;(with_reducible refine (dn.calls g bC (wrap64 (aY + 1)) t169 t170 t171 w0 _ ?aX ?bS Gp.out).mono ?_);(case aX=>repeat (first|(with_reducible first|exact dO.out|apply av.alloc|apply av.drewN|apply av.drew|apply av.fQ|apply av.fM)|exact dO.out));(case bS=>repeat (first|(with_reducible first|exact HB.out|apply az|apply aB|apply bu|refine bp ?_ (av.ge dO.out))|exact HB.out));rintro e Mb ⟨rfl,hi,hb,hk⟩;have bD:=ah.mk (Kd.gi (Kd.sw (av.apart (show av w0 _ g bC (wrap64 (aY + 1)) from by repeat (first|(with_reducible first|exact dO.out|apply av.alloc|apply av.drewN|apply av.drew|apply av.fQ|apply av.fM)|exact dO.out)) tM bR) hk (fun _ h=>h.2)) (fun _ h=>h.1));have bN:=ah.mk (bA.trans eH hk (.inl rfl));have cz:=ah.mk (hb);have cY:=ah.mk (hi);clear l6;clear HK;clear HB;clear dO;have l6:=bD;have HK:=bN;have HB:=cz;have dO:=cY;clear bD bN cz cY;(try clear hb);(try clear hb2);(try clear hk);(try clear hi);obtain ⟨qY,Mc⟩:=dO.out;have yt:=dW qY;have yu:=dQ qY;have yw:=aa qY 0;have yx:=aa qY 1;clear qY Mc)|((with_reducible refine lF (b:= .append) (xs:=#[.tmp 77,.tmp 79]) rfl ?_);at_builtin;refine Kd.qI (Kd.int .u8) w.heap.size rfl (.tmp 77) (.tmp 79) 23 5 (.int .u8 0) 1 rfl Tryz.underlying23 GR rfl bR aq u6 nD t169 [.int .u8 t169] (fun _ =>True) (fun _ =>False) rfl sP ?aP (fun _ hk=>hk.elim) ?aF ?aO (Below.refl _ _) ?aS ?aL ?_;(case aP=>exact rfl);(case aF=>exact (fun _ _ =>trivial));(case aO=>exact NW);(case aS=>exact (oU (w:=w) (g:=g) (row:=none) eH));(case aL=>have:=Vb.out;omega);intro v173 TX ho hb hg hat;rw [← Vc.out] at ho;have bD:=ah.mk (av.grown iy hg (av.own_ne dO.out l6.out bR));have bN:=ah.mk (bq iw HL.out hb);have cz:=ah.mk (bA.trans eH (bA.pL hg g) (Kd.uF l6.out));have cY:=ah.mk (ho);clear dO;clear HB;clear HK;clear l6;have dO:=bD;have HB:=bN;have HK:=cz;have Vd:=cY;clear bD bN cz cY;clear ho hb hg hat)))
           go_roundg k1
           case measure=>have:=uC.out;omega
           case rel=>exact ⟨(aes),(t170),(wrap64 (t171 + 1)),H',⟨j6⟩,⟨by (with_reducible repeat (first|apply Kd.gh|apply Kd.gm|apply Kd.iq));exact Vd.out⟩,⟨iy⟩,⟨eH⟩,⟨iw⟩⟩
          ·rw [if_neg c21] at H
           exact absurd H bn
       ·rw [if_neg c11] at H
        have za:((bt bC aY) == 92)=false:=beq_eq_false_iff_ne.mpr c11
        have LG:((bt bC aY) != 92)=true:=bne_iff_ne.mpr c11
        by_cases TU:(bt bC aY) < 32
        ·rw [if_pos TU] at H
         have aeu:decide ((bt bC aY) < 32)=true:=decide_eq_true TU
         clear TU
         simp only [Option.some.injEq,Prod.mk.injEq] at H
         obtain ⟨rfl,rfl,rfl,rfl⟩:=H
         obtain ⟨Md,aev⟩:=dO.out
         have Qs:=dW Md
         have Qt:=dQ Md
         have Qu:=aa Md 0
         have Qv:=aa Md 1
         clear Md aev
         have p7: 0≤(aY:Int):=of_decide_eq_true cX
         have q7:aY < (bC.size:Int):=of_decide_eq_true cX
         have C7:=gV bC aY
         replace p7:=eq_true p7
         replace q7:=eq_true q7
         go_wp2
         repeat (go_quiet (fail);try go_wp2)
         go_ret2
         exact ⟨cZ,iy,iw,eH⟩
        ·rw [if_neg TU] at H
         have aeu:decide ((bt bC aY) < 32)=false:=decide_eq_false TU
         clear TU
         by_cases c28:(bt bC aY) > 126
         ·rw [if_pos c28] at H
          have GX:decide (126 < (bt bC aY))=true:=decide_eq_true c28
          clear c28
          simp only [Option.some.injEq,Prod.mk.injEq] at H
          obtain ⟨rfl,rfl,rfl,rfl⟩:=H
          obtain ⟨Me,aew⟩:=dO.out
          have DT:=dW Me
          have DU:=dQ Me
          have DV:=aa Me 0
          have DW:=aa Me 1
          clear Me aew
          have p7: 0≤(aY:Int):=of_decide_eq_true cX
          have q7:aY < (bC.size:Int):=of_decide_eq_true cX
          have C7:=gV bC aY
          replace p7:=eq_true p7
          replace q7:=eq_true q7
          go_wp2
          repeat (go_quiet (fail);try go_wp2)
          go_ret2
          exact ⟨cZ,iy,iw,eH⟩
         ·rw [if_neg c28] at H
          have GX:decide (126 < (bt bC aY))=false:=decide_eq_false c28
          clear c28
          by_cases Ot:nD.length < 140737488355328
          ·rw [if_pos Ot] at H
           have Ve:=ah.mk Ot
           clear Ot
           obtain ⟨aex,Mf⟩:∃ y_:List Int,y_=(nD ++ [bt bC aY]):=⟨_,rfl⟩
           replace H:(cm.l0 k1 aex bC (wrap64 (aY + 1)))=some (r1,r2,r3,r4):=by first|(rw [Mf];with_reducible exact H)|(have OB:=(Option.bind_some _ _).symm.trans H;rw [Mf];with_reducible exact OB)|(have OB:=(Option.bind_some _ _).symm.trans H;with_reducible exact OB)|with_reducible exact H|(rw [Mf];exact H)|exact H
           have Vf:=ah.mk Mf
           clear Mf
           have H':=ah.mk H
           clear H
           obtain ⟨Mg,aey⟩:=dO.out
           have yD:=dW Mg
           have yE:=dQ Mg
           have yF:=aa Mg 0
           have yG:=aa Mg 1
           clear Mg aey
           have p7: 0≤(aY:Int):=of_decide_eq_true cX
           have q7:aY < (bC.size:Int):=of_decide_eq_true cX
           have C7:=gV bC aY
           replace p7:=eq_true p7
           replace q7:=eq_true q7
           go_wp2_with (first|((with_reducible refine lF (b:= .append) (xs:=#[.tmp 77,.tmp 79]) rfl ?_);at_builtin;refine Kd.qI (Kd.int .u8) w.heap.size rfl (.tmp 77) (.tmp 79) 23 5 (.int .u8 0) 1 rfl Tryz.underlying23 GR rfl bR aq u6 nD (bt bC aY) [.int .u8 (bt bC aY)] (fun _ =>True) (fun _ =>False) rfl sP ?aP (fun _ hk=>hk.elim) ?aF ?aO (Below.refl _ _) ?aS ?aL ?_;(case aP=>exact rfl);(case aF=>exact (fun _ _ =>trivial));(case aO=>exact NV);(case aS=>exact (oU (w:=w) (g:=g) (row:=none) eH));(case aL=>have:=Ve.out;omega);intro aez Fl ho hb hg hat;rw [← Vf.out] at ho;have bD:=ah.mk (av.grown iy hg (av.own_ne dO.out l6.out bR));have bN:=ah.mk (bq iw HL.out hb);have cz:=ah.mk (bA.trans eH (bA.pL hg g) (Kd.uF l6.out));have cY:=ah.mk (ho);clear dO;clear HB;clear HK;clear l6;have dO:=bD;have HB:=bN;have HK:=cz;have Vg:=cY;clear bD bN cz cY;clear ho hb hg hat))
           repeat (go_quiet (first|((with_reducible refine lF (b:= .append) (xs:=#[.tmp 77,.tmp 79]) rfl ?_);at_builtin;refine Kd.qI (Kd.int .u8) w.heap.size rfl (.tmp 77) (.tmp 79) 23 5 (.int .u8 0) 1 rfl Tryz.underlying23 GR rfl bR aq u6 nD (bt bC aY) [.int .u8 (bt bC aY)] (fun _ =>True) (fun _ =>False) rfl sP ?aP (fun _ hk=>hk.elim) ?aF ?aO (Below.refl _ _) ?aS ?aL ?_;(case aP=>exact rfl);(case aF=>exact (fun _ _ =>trivial));(case aO=>exact NV);(case aS=>exact (oU (w:=w) (g:=g) (row:=none) eH));(case aL=>have:=Ve.out;omega);intro aez Fl ho hb hg hat;rw [← Vf.out] at ho;have bD:=ah.mk (av.grown iy hg (av.own_ne dO.out l6.out bR));have bN:=ah.mk (bq iw HL.out hb);have cz:=ah.mk (bA.trans eH (bA.pL hg g) (Kd.uF l6.out));have cY:=ah.mk (ho);clear dO;clear HB;clear HK;clear l6;have dO:=bD;have HB:=bN;have HK:=cz;have Vg:=cY;clear bD bN cz cY;clear ho hb hg hat));try go_wp2_with (first|((with_reducible refine lF (b:= .append) (xs:=#[.tmp 77,.tmp 79]) rfl ?_);at_builtin;refine Kd.qI (Kd.int .u8) w.heap.size rfl (.tmp 77) (.tmp 79) 23 5 (.int .u8 0) 1 rfl Tryz.underlying23 GR rfl bR aq u6 nD (bt bC aY) [.int .u8 (bt bC aY)] (fun _ =>True) (fun _ =>False) rfl sP ?aP (fun _ hk=>hk.elim) ?aF ?aO (Below.refl _ _) ?aS ?aL ?_;(case aP=>exact rfl);(case aF=>exact (fun _ _ =>trivial));(case aO=>exact NV);(case aS=>exact (oU (w:=w) (g:=g) (row:=none) eH));(case aL=>have:=Ve.out;omega);intro aez Fl ho hb hg hat;rw [← Vf.out] at ho;have bD:=ah.mk (av.grown iy hg (av.own_ne dO.out l6.out bR));have bN:=ah.mk (bq iw HL.out hb);have cz:=ah.mk (bA.trans eH (bA.pL hg g) (Kd.uF l6.out));have cY:=ah.mk (ho);clear dO;clear HB;clear HK;clear l6;have dO:=bD;have HB:=bN;have HK:=cz;have Vg:=cY;clear bD bN cz cY;clear ho hb hg hat)))
           go_roundg k1
           case measure=>have:=uC.out;omega
           case rel=>exact ⟨(aex),(bC),(wrap64 (aY + 1)),H',⟨j6⟩,⟨by (with_reducible repeat (first|apply Kd.gh|apply Kd.gm|apply Kd.iq));exact Vg.out⟩,⟨iy⟩,⟨eH⟩,⟨iw⟩⟩
          ·rw [if_neg Ot] at H
           exact absurd H bn
     ·rw [if_neg c6] at H
      exact absurd H bn
    ·rw [if_neg c5] at H
     have tR:decide (aY < (bC.size:Int))=false:=decide_eq_false c5
     clear c5
     simp only [Option.some.injEq,Prod.mk.injEq] at H
     obtain ⟨rfl,rfl,rfl,rfl⟩:=H
     obtain ⟨Mh,aeA⟩:=dO.out
     have Rg:=dW Mh
     have Rh:=dQ Mh
     have Ri:=aa Mh 0
     have Rj:=aa Mh 1
     clear Mh aeA
     go_wp2
     repeat (go_quiet (fail);try go_wp2)
     go_ret2
     exact ⟨cZ,iy,iw,eH⟩
 ·replace c3:=Bool.eq_false_iff.mpr c3
  subst c3
  have H1:((aI.f k t164 t165 46).bind fun kr=>(if 0≤t165 then (if t165≤kr.2.2 then (if kr.2.2≤(kr.2.1.size:Int) then (some (kr.2.1.extract (t165:Int).toNat (kr.2.2:Int).toNat,kr.1,kr.2.1,kr.2.2)) else (none)) else (none)) else (none)))=some (r1,r2,r3,r4):=by rw [if_neg (show ¬ (false=true) by decide)] at H;exact H
  clear H
  have H:=H1
  clear H1
  replace H:=Option.bind_eq_some_iff.mp H
  obtain ⟨⟨t166,t167,t168⟩,Vh,H⟩:=H
  replace H:(if 0≤t165 then (if t165≤t168 then (if t168≤(t167.size:Int) then (some (t167.extract (t165:Int).toNat (t168:Int).toNat,t166,t167,t168)) else (none)) else (none)) else (none))=some (r1,r2,r3,r4):=H
  have A34:=ah.mk Vh
  clear Vh
  by_cases c35: 0≤t165
  ·rw [if_pos c35] at H
   have aoY:=eq_true c35
   have aoZ:decide (0≤t165)=true:=decide_eq_true c35
   clear c35
   by_cases c36:t165≤t168
   ·rw [if_pos c36] at H
    have ao0:=eq_true c36
    have ao1:decide (t165≤t168)=true:=decide_eq_true c36
    clear c36
    by_cases c37:t168≤(t167.size:Int)
    ·rw [if_pos c37] at H
     have aeE:=eq_true c37
     have aeF:decide (t168≤(t167.size:Int))=true:=decide_eq_true c37
     clear c37
     simp only [Option.some.injEq,Prod.mk.injEq] at H
     obtain ⟨rfl,rfl,rfl,rfl⟩:=H
     go_enter Tryz.func123,Tryz.ntmps123
     go_wp2_with (first|(go_at_call 56;(with_reducible refine (br.calls g eY cW 34 false t164 t165 w0 _ ?aX ?bS A2.out).mono ?_);(case aX=>repeat (first|(with_reducible first|exact dO.out|apply av.alloc|apply av.drewN|apply av.drew|apply av.fQ|apply av.fM)|exact dO.out));(case bS=>repeat (first|(with_reducible first|exact HB.out|apply az|apply aB|apply bu|refine bp ?_ (av.ge dO.out))|exact HB.out));rintro e TY ⟨rfl,hi,hb,hk⟩;have bD:=ah.mk (bA.trans eH hk (.inl rfl));have bN:=ah.mk (hb);have cz:=ah.mk (hi);clear HK;clear HB;clear dO;have HK:=bD;have HB:=bN;have dO:=cz;clear bD bN cz;(try clear hb);(try clear hb2);(try clear hk);(try clear hi);obtain ⟨qZ,Mi⟩:=dO.out;have AK:=dW qZ;have AL:=dQ qZ;have AO:=aa qZ 0;have AP:=aa qZ 1;clear qZ Mi)|(go_at_call 67;(with_reducible refine (aI.calls k g t164 t165 46 t166 t167 t168 w0 _ ?aX ?bS A34.out).mono ?_);(case aX=>repeat (first|(with_reducible first|exact dO.out|apply av.alloc|apply av.drewN|apply av.drew|apply av.fQ|apply av.fM)|exact dO.out));(case bS=>repeat (first|(with_reducible first|exact HB.out|apply az|apply aB|apply bu|refine bp ?_ (av.ge dO.out))|exact HB.out));rintro e w40 ⟨rfl,hi,hb,hk⟩;have bD:=ah.mk (bA.trans eH hk (.inl rfl));have bN:=ah.mk (hb);have cz:=ah.mk (hi);clear HK;clear HB;clear dO;have HK:=bD;have HB:=bN;have dO:=cz;clear bD bN cz;(try clear hb);(try clear hb2);(try clear hk);(try clear hi);obtain ⟨q8,Mj⟩:=dO.out;have Rk:=dW q8;have Rl:=dQ q8;have Rm:=aa q8 0;have Rn:=aa q8 1;clear q8 Mj))
     repeat (go_quiet (first|(go_at_call 56;(with_reducible refine (br.calls g eY cW 34 false t164 t165 w0 _ ?aX ?bS A2.out).mono ?_);(case aX=>repeat (first|(with_reducible first|exact dO.out|apply av.alloc|apply av.drewN|apply av.drew|apply av.fQ|apply av.fM)|exact dO.out));(case bS=>repeat (first|(with_reducible first|exact HB.out|apply az|apply aB|apply bu|refine bp ?_ (av.ge dO.out))|exact HB.out));rintro e TY ⟨rfl,hi,hb,hk⟩;have bD:=ah.mk (bA.trans eH hk (.inl rfl));have bN:=ah.mk (hb);have cz:=ah.mk (hi);clear HK;clear HB;clear dO;have HK:=bD;have HB:=bN;have dO:=cz;clear bD bN cz;(try clear hb);(try clear hb2);(try clear hk);(try clear hi);obtain ⟨qZ,Mi⟩:=dO.out;have AK:=dW qZ;have AL:=dQ qZ;have AO:=aa qZ 0;have AP:=aa qZ 1;clear qZ Mi)|(go_at_call 67;(with_reducible refine (aI.calls k g t164 t165 46 t166 t167 t168 w0 _ ?aX ?bS A34.out).mono ?_);(case aX=>repeat (first|(with_reducible first|exact dO.out|apply av.alloc|apply av.drewN|apply av.drew|apply av.fQ|apply av.fM)|exact dO.out));(case bS=>repeat (first|(with_reducible first|exact HB.out|apply az|apply aB|apply bu|refine bp ?_ (av.ge dO.out))|exact HB.out));rintro e w40 ⟨rfl,hi,hb,hk⟩;have bD:=ah.mk (bA.trans eH hk (.inl rfl));have bN:=ah.mk (hb);have cz:=ah.mk (hi);clear HK;clear HB;clear dO;have HK:=bD;have HB:=bN;have dO:=cz;clear bD bN cz;(try clear hb);(try clear hb2);(try clear hk);(try clear hi);obtain ⟨q8,Mj⟩:=dO.out;have Rk:=dW q8;have Rl:=dQ q8;have Rm:=aa q8 0;have Rn:=aa q8 1;clear q8 Mj));try go_wp2_with (first|(go_at_call 56;(with_reducible refine (br.calls g eY cW 34 false t164 t165 w0 _ ?aX ?bS A2.out).mono ?_);(case aX=>repeat (first|(with_reducible first|exact dO.out|apply av.alloc|apply av.drewN|apply av.drew|apply av.fQ|apply av.fM)|exact dO.out));(case bS=>repeat (first|(with_reducible first|exact HB.out|apply az|apply aB|apply bu|refine bp ?_ (av.ge dO.out))|exact HB.out));rintro e TY ⟨rfl,hi,hb,hk⟩;have bD:=ah.mk (bA.trans eH hk (.inl rfl));have bN:=ah.mk (hb);have cz:=ah.mk (hi);clear HK;clear HB;clear dO;have HK:=bD;have HB:=bN;have dO:=cz;clear bD bN cz;(try clear hb);(try clear hb2);(try clear hk);(try clear hi);obtain ⟨qZ,Mi⟩:=dO.out;have AK:=dW qZ;have AL:=dQ qZ;have AO:=aa qZ 0;have AP:=aa qZ 1;clear qZ Mi)|(go_at_call 67;(with_reducible refine (aI.calls k g t164 t165 46 t166 t167 t168 w0 _ ?aX ?bS A34.out).mono ?_);(case aX=>repeat (first|(with_reducible first|exact dO.out|apply av.alloc|apply av.drewN|apply av.drew|apply av.fQ|apply av.fM)|exact dO.out));(case bS=>repeat (first|(with_reducible first|exact HB.out|apply az|apply aB|apply bu|refine bp ?_ (av.ge dO.out))|exact HB.out));rintro e w40 ⟨rfl,hi,hb,hk⟩;have bD:=ah.mk (bA.trans eH hk (.inl rfl));have bN:=ah.mk (hb);have cz:=ah.mk (hi);clear HK;clear HB;clear dO;have HK:=bD;have HB:=bN;have dO:=cz;clear bD bN cz;(try clear hb);(try clear hb2);(try clear hk);(try clear hi);obtain ⟨q8,Mj⟩:=dO.out;have Rk:=dW q8;have Rl:=dQ q8;have Rm:=aa q8 0;have Rn:=aa q8 1;clear q8 Mj)))
     go_ret2
     exact ⟨cZ,iy,iw,eH⟩
    ·rw [if_neg c37] at H
     exact absurd H bn
   ·rw [if_neg c36] at H
    exact absurd H bn
  ·rw [if_neg c35] at H
   exact absurd H bn
def gv.f (a0:Int):Option (Bool):=some (a0 != 93)
set_option maxHeartbeats 8000000 in
set_option maxRecDepth 100000 in
theorem gv.calls (a0:Int) (r:Bool) (w:World) (h:gv.f a0=some r):
 Calls Tryz.prog 124 #[.int .u8 a0] w fun e w'=>e= .returned (.bool r)∧kg w w':=by
 have H:(some (a0 != 93))=some r:=h
 clear h
 obtain rfl:=Option.some.inj H
 go_enter Tryz.func124,Tryz.ntmps124
 go_wp2
 go_ret
 exact ⟨ey,kJ⟩
def aQ.l0:Nat→Int→ByteArray→Int→Option (ByteArray×Bool×ByteArray×Int)
 | 0,_,_,_ =>none
 |k + 1,x6,gZ,fS=>if fS < (gZ.size:Int) then (if 0≤fS then ((gv.f (bt gZ fS)).bind fun t178=>(if t178=true then (aQ.l0 k x6 gZ (wrap64 (fS + 1))) else (if 0≤x6 then (if x6≤fS then (if fS≤(gZ.size:Int) then (some (gZ.extract (x6:Int).toNat (fS:Int).toNat,decide (fS > x6),gZ,fS)) else (none)) else (none)) else (none)))) else (none)) else (if 0≤x6 then (if x6≤fS then (if fS≤(gZ.size:Int) then (some (gZ.extract (x6:Int).toNat (fS:Int).toNat,decide (fS > x6),gZ,fS)) else (none)) else (none)) else (none))
def aQ.f (k:Nat) (eY:ByteArray) (cW:Int):Option (ByteArray×Bool×ByteArray×Int):=aQ.l0 k cW eY cW
theorem aQ.fR:∀ k,(∀ y0 y1 y2,cR (aQ.l0 k y0 y1 y2) (aQ.l0 (k + 1) y0 y1 y2))
 | 0=>fun _ _ _ r h=>by simp [aQ.l0] at h
 |k + 1=>by
  have nY:=aQ.fR k
  ·intro y0 y1 y2
   unfold aQ.l0
   repeat' first
   |(with_reducible exact nY _ _ _)
   |(with_reducible exact cR.refl _)
   |(with_reducible exact cR.none _)
   |(with_reducible refine cR.ite ?_ ?_)
   |(with_reducible refine cR.bind ?_ (fun _ =>?_))
   |refine cR.ite ?_ ?_
   |refine cR.bind ?_ (fun _ =>?_)
theorem aQ.mono:∀ a0 a1 k,cR (aQ.f k a0 a1) (aQ.f (k + 1) a0 a1):=by
 intro a0 a1 k
 have nY:=aQ.fR k
 unfold aQ.f
 repeat' first
  |(with_reducible exact nY _ _ _)
  |(with_reducible exact cR.refl _)
  |(with_reducible exact cR.none _)
  |(with_reducible refine cR.ite ?_ ?_)
  |(with_reducible refine cR.bind ?_ (fun _ =>?_))
  |refine cR.ite ?_ ?_
  |refine cR.bind ?_ (fun _ =>?_)
set_option maxHeartbeats 8000000 in
set_option maxRecDepth 100000 in
theorem aQ.calls (k:Nat) (g:Nat) (eY:ByteArray) (cW:Int) (r1:ByteArray) (r2:Bool) (r3:ByteArray) (r4:Int) (w0 w:World) (hI:av w0 w g eY cW) (hB:Below w0.heap.size w0 w) (h:aQ.f k eY cW=some (r1,r2,r3,r4)):
 Calls Tryz.prog 119 #[.pointer (some ⟨g,0,none⟩),.func (.func 124) #[] #[]] w fun e w'=>e= .returned (.tuple #[.string r1,.bool r2])∧av w0 w' g r3 r4∧Below w0.heap.size w0 w'∧bA w w' g none:=by
 have dO:=ah.mk hI
 have HK:=ah.mk (bA.refl w g none)
 have HL:=ah.mk hB.size
 clear hI
 have TW:=ah.mk hB.size
 have HB:=ah.mk hB
 clear hB
 have H:(aQ.l0 k cW eY cW)=some (r1,r2,r3,r4):=h
 clear h
 have H':=ah.mk H
 clear H
 obtain ⟨xd,U2⟩:=dO.out
 have tS:=dW xd
 have tT:=dQ xd
 have tU:=aa xd 0
 have tV:=aa xd 1
 clear xd U2
 go_enter Tryz.func119,Tryz.ntmps119
 go_wp2
 repeat (go_quiet (fail);try go_wp2)
 go_loopg [] k (fun kq w'=>∃ (bC:ByteArray) (aY:Int),ah (aQ.l0 kq cW bC aY=some (r1,r2,r3,r4))∧ah (kq≤k)∧ah (av w0 w' g bC aY)∧ah (bA w w' g none)∧ah (Below w0.heap.size w0 w'))
 case atStart=>exact ⟨(eY),(cW),H',⟨Nat.le_refl _⟩,⟨iy⟩,⟨eH⟩,⟨iw⟩⟩
 case round=>
  clear H'
  try clear c1
  try clear p2
  try clear tS
  try clear tT
  try clear tU
  try clear tV
  obtain ⟨bC,aY,HA,uC,dO,HK,HB⟩:=hrel
  cases gk with
  |zero=>exact absurd HA.out (by simp [aQ.l0])
  |succ k1=>
   have H:=HA.out
   clear HA
   simp only [aQ.l0] at H
   by_cases c4:aY < (bC.size:Int)
   ·rw [if_pos c4] at H
    have oL:decide (aY < (bC.size:Int))=true:=decide_eq_true c4
    clear c4
    by_cases c5: 0≤aY
    ·rw [if_pos c5] at H
     have tR:decide (0≤aY)=true:=decide_eq_true c5
     clear c5
     replace H:=Option.bind_eq_some_iff.mp H
     obtain ⟨t178,GW,H⟩:=H
     replace H:(if t178=true then (aQ.l0 k1 cW bC (wrap64 (aY + 1))) else (if 0≤cW then (if cW≤aY then (if aY≤(bC.size:Int) then (some (bC.extract (cW:Int).toNat (aY:Int).toNat,decide (aY > cW),bC,aY)) else (none)) else (none)) else (none)))=some (r1,r2,r3,r4):=H
     have A7:=ah.mk GW
     clear GW
     by_cases c8:t178=true
     ·subst c8
      have H1:(aQ.l0 k1 cW bC (wrap64 (aY + 1)))=some (r1,r2,r3,r4):=by rw [if_pos rfl] at H;exact H
      clear H
      have H:=H1
      clear H1
      have H':=ah.mk H
      clear H
      obtain ⟨pR,JT⟩:=dO.out
      have qp:=dW pR
      have qq:=dQ pR
      have qu:=aa pR 0
      have qw:=aa pR 1
      clear pR JT
      have p6: 0≤(aY:Int):=of_decide_eq_true cX
      have q6:aY < (bC.size:Int):=of_decide_eq_true cX
      have hx6:=gV bC aY
      replace p6:=eq_true p6
      replace q6:=eq_true q6
      go_wp2_with (first|(go_at_call 124;(with_reducible refine (gv.calls (bt bC aY) true _ A7.out).mono ?_);rintro e w' ⟨rfl,⟨nd,rfl⟩⟩;(try first|exact ⟨rfl,_,World.drewN_drewN _ _ _⟩|exact ⟨rfl,_,Eq.trans (World.drewN_drewN _ _ _) (congrArg (World.drewN _) (Nat.add_assoc _ _ _))⟩)))
      repeat (go_quiet (first|(go_at_call 124;(with_reducible refine (gv.calls (bt bC aY) true _ A7.out).mono ?_);rintro e w' ⟨rfl,⟨nd,rfl⟩⟩;(try first|exact ⟨rfl,_,World.drewN_drewN _ _ _⟩|exact ⟨rfl,_,Eq.trans (World.drewN_drewN _ _ _) (congrArg (World.drewN _) (Nat.add_assoc _ _ _))⟩)));try go_wp2_with (first|(go_at_call 124;(with_reducible refine (gv.calls (bt bC aY) true _ A7.out).mono ?_);rintro e w' ⟨rfl,⟨nd,rfl⟩⟩;(try first|exact ⟨rfl,_,World.drewN_drewN _ _ _⟩|exact ⟨rfl,_,Eq.trans (World.drewN_drewN _ _ _) (congrArg (World.drewN _) (Nat.add_assoc _ _ _))⟩))))
      go_roundg k1
      case measure=>have:=uC.out;omega
      case rel=>exact ⟨(bC),(wrap64 (aY + 1)),H',⟨j6⟩,⟨iy⟩,⟨eH⟩,⟨iw⟩⟩
     ·replace c8:=Bool.eq_false_iff.mpr c8
      subst c8
      have H1:(if 0≤cW then (if cW≤aY then (if aY≤(bC.size:Int) then (some (bC.extract (cW:Int).toNat (aY:Int).toNat,decide (aY > cW),bC,aY)) else (none)) else (none)) else (none))=some (r1,r2,r3,r4):=by rw [if_neg (show ¬ (false=true) by decide)] at H;exact H
      clear H
      have H:=H1
      clear H1
      by_cases c10: 0≤cW
      ·rw [if_pos c10] at H
       have pO:=eq_true c10
       have yZ:decide (0≤cW)=true:=decide_eq_true c10
       clear c10
       by_cases c11:cW≤aY
       ·rw [if_pos c11] at H
        have za:=eq_true c11
        have LG:decide (cW≤aY)=true:=decide_eq_true c11
        clear c11
        by_cases c12:aY≤(bC.size:Int)
        ·rw [if_pos c12] at H
         have Ct:=eq_true c12
         have LH:decide (aY≤(bC.size:Int))=true:=decide_eq_true c12
         clear c12
         simp only [Option.some.injEq,Prod.mk.injEq] at H
         obtain ⟨rfl,rfl,rfl,rfl⟩:=H
         obtain ⟨qO,LS⟩:=dO.out
         have qC:=dW qO
         have qD:=dQ qO
         have qE:=aa qO 0
         have qF:=aa qO 1
         clear qO LS
         have p6: 0≤(aY:Int):=of_decide_eq_true cX
         have q6:aY < (bC.size:Int):=of_decide_eq_true cX
         have hx6:=gV bC aY
         replace p6:=eq_true p6
         replace q6:=eq_true q6
         go_wp2_with (first|(go_at_call 124;(with_reducible refine (gv.calls (bt bC aY) false _ A7.out).mono ?_);rintro e w' ⟨rfl,⟨nd,rfl⟩⟩;(try first|exact ⟨rfl,_,World.drewN_drewN _ _ _⟩|exact ⟨rfl,_,Eq.trans (World.drewN_drewN _ _ _) (congrArg (World.drewN _) (Nat.add_assoc _ _ _))⟩)))
         repeat (go_quiet (first|(go_at_call 124;(with_reducible refine (gv.calls (bt bC aY) false _ A7.out).mono ?_);rintro e w' ⟨rfl,⟨nd,rfl⟩⟩;(try first|exact ⟨rfl,_,World.drewN_drewN _ _ _⟩|exact ⟨rfl,_,Eq.trans (World.drewN_drewN _ _ _) (congrArg (World.drewN _) (Nat.add_assoc _ _ _))⟩)));try go_wp2_with (first|(go_at_call 124;(with_reducible refine (gv.calls (bt bC aY) false _ A7.out).mono ?_);rintro e w' ⟨rfl,⟨nd,rfl⟩⟩;(try first|exact ⟨rfl,_,World.drewN_drewN _ _ _⟩|exact ⟨rfl,_,Eq.trans (World.drewN_drewN _ _ _) (congrArg (World.drewN _) (Nat.add_assoc _ _ _))⟩))))
         go_ret2
         exact ⟨cZ,iy,iw,eH⟩
        ·rw [if_neg c12] at H
         exact absurd H bn
       ·rw [if_neg c11] at H
        exact absurd H bn
      ·rw [if_neg c10] at H
       exact absurd H bn
    ·rw [if_neg c5] at H
     exact absurd H bn
   ·rw [if_neg c4] at H
    have oL:decide (aY < (bC.size:Int))=false:=decide_eq_false c4
    clear c4
    by_cases c14: 0≤cW
    ·rw [if_pos c14] at H
     have LU:=eq_true c14
     have LV:decide (0≤cW)=true:=decide_eq_true c14
     clear c14
     by_cases c15:cW≤aY
     ·rw [if_pos c15] at H
      have Fj:=eq_true c15
      have Re:decide (cW≤aY)=true:=decide_eq_true c15
      clear c15
      by_cases c16:aY≤(bC.size:Int)
      ·rw [if_pos c16] at H
       have aaI:=eq_true c16
       have aaJ:decide (aY≤(bC.size:Int))=true:=decide_eq_true c16
       clear c16
       simp only [Option.some.injEq,Prod.mk.injEq] at H
       obtain ⟨rfl,rfl,rfl,rfl⟩:=H
       obtain ⟨qP,LW⟩:=dO.out
       have tv:=dW qP
       have tA:=dQ qP
       have tB:=aa qP 0
       have tC:=aa qP 1
       clear qP LW
       go_wp2
       repeat (go_quiet (fail);try go_wp2)
       go_ret2
       exact ⟨cZ,iy,iw,eH⟩
      ·rw [if_neg c16] at H
       exact absurd H bn
     ·rw [if_neg c15] at H
      exact absurd H bn
    ·rw [if_neg c14] at H
     exact absurd H bn
end Go.Proofs.YtokpnfljjjjikaaGreatDoor.nX
