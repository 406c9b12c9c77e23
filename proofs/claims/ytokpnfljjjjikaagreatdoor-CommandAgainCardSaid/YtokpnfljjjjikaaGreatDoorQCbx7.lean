import Derived.Test.YtokpnfljjjjikaaGreatDoorZo
import Derived.Test.YtokpnfljjjjikaaGreatDoorQCbx0
import Derived.Test.YtokpnfljjjjikaaGreatDoorQCbx3
import Derived.Test.YtokpnfljjjjikaaGreatDoorQCbx6
namespace Go.Proofs.YtokpnfljjjjikaaGreatDoor.pJ
open Go.RowKit Go.Proofs.aj.bV Go.Proofs.aj.gq Go.Proofs.aj.dB
attribute [local go_sem] jo jq kM kN iO iP jr jt
set_option linter.unusedVariables false
set_option linter.unusedSimpArgs false
def cr.l0:Nat→List Int→ByteArray→Int→Option (ByteArray×Bool×ByteArray×Int)
 | 0,_,_,_ =>none
 |k + 1,x6,iB,gi=>if gi < (iB.size:Int) then (if 0≤gi then (if (bt iB gi)=34 then (some (strOfNums x6,true,iB,wrap64 (gi + 1))) else (if (bt iB gi)=92 then ((dh.f iB (wrap64 (gi + 1))).bind fun Bj=>(if Bj.1 < 32 then (some ((⟨#[]⟩:ByteArray),false,Bj.2.1,wrap64 (Bj.2.2 + 1))) else (if Bj.1 > 126 then (some ((⟨#[]⟩:ByteArray),false,Bj.2.1,wrap64 (Bj.2.2 + 1))) else (if x6.length < 140737488355328 then (cr.l0 k (x6 ++ [Bj.1]) Bj.2.1 (wrap64 (Bj.2.2 + 1))) else (none))))) else (if (bt iB gi) < 32 then (some ((⟨#[]⟩:ByteArray),false,iB,wrap64 (gi + 1))) else (if (bt iB gi) > 126 then (some ((⟨#[]⟩:ByteArray),false,iB,wrap64 (gi + 1))) else (if x6.length < 140737488355328 then (cr.l0 k (x6 ++ [bt iB gi]) iB (wrap64 (gi + 1))) else (none)))))) else (none)) else (some ((⟨#[]⟩:ByteArray),false,iB,gi))
def cr.f (k:Nat) (fD:ByteArray) (cS:Int):Option (ByteArray×Bool×ByteArray×Int):=(bq.f fD cS 34).bind fun rz=>(if rz.1=true then (cr.l0 k ([]:List Int) rz.2.1 rz.2.2) else ((aK.f k rz.2.1 rz.2.2 46).bind fun ko=>(if 0≤rz.2.2 then (if rz.2.2≤ko.2.2 then (if ko.2.2≤(ko.2.1.size:Int) then (some (ko.2.1.extract (rz.2.2:Int).toNat (ko.2.2:Int).toNat,ko.1,ko.2.1,ko.2.2)) else (none)) else (none)) else (none))))
theorem cr.gf:∀ k,(∀ y0 y1 y2,cN (cr.l0 k y0 y1 y2) (cr.l0 (k + 1) y0 y1 y2))
 | 0=>fun _ _ _ r h=>by simp [cr.l0] at h
 |k + 1=>by
  have oo:=cr.gf k
  ·intro y0 y1 y2
   unfold cr.l0
   repeat' first
   |(with_reducible exact oo _ _ _)
   |(with_reducible exact aK.mono _ _ _ _)
   |(with_reducible exact cN.refl _)
   |(with_reducible exact cN.none _)
   |(with_reducible refine cN.ite ?_ ?_)
   |(with_reducible refine cN.bind ?_ (fun _ =>?_))
   |refine cN.ite ?_ ?_
   |refine cN.bind ?_ (fun _ =>?_)
theorem cr.mono:∀ a0 a1 k,cN (cr.f k a0 a1) (cr.f (k + 1) a0 a1):=by
 intro a0 a1 k
 have oo:=cr.gf k
 unfold cr.f
 repeat' first
  |(with_reducible exact oo _ _ _)
  |(with_reducible exact aK.mono _ _ _ _)
  |(with_reducible exact cN.refl _)
  |(with_reducible exact cN.none _)
  |(with_reducible refine cN.ite ?_ ?_)
  |(with_reducible refine cN.bind ?_ (fun _ =>?_))
  |refine cN.ite ?_ ?_
  |refine cN.bind ?_ (fun _ =>?_)
set_option maxHeartbeats 8000000 in
set_option maxRecDepth 100000 in
theorem cr.calls (k:Nat) (g:Nat) (fD:ByteArray) (cS:Int) (r1:ByteArray) (r2:Bool) (r3:ByteArray) (r4:Int) (w0 w:World) (hI:aA w0 w g fD cS) (hB:Below w0.heap.size w0 w) (h:cr.f k fD cS=some (r1,r2,r3,r4)):
 Calls Tryz.prog 123 #[.pointer (some ⟨g,0,none⟩)] w fun e w'=>e= .returned (.tuple #[.string r1,.bool r2])∧aA w0 w' g r3 r4∧Below w0.heap.size w0 w'∧bC w w' g none:=by
 have dI:=ah.mk hI
 have HK:=ah.mk (bC.refl w g none)
 have HL:=ah.mk hB.size
 clear hI
 have T9:=ah.mk hB.size
 have HB:=ah.mk hB
 clear hB
 have H:((bq.f fD cS 34).bind fun rz=>(if rz.1=true then (cr.l0 k ([]:List Int) rz.2.1 rz.2.2) else ((aK.f k rz.2.1 rz.2.2 46).bind fun ko=>(if 0≤rz.2.2 then (if rz.2.2≤ko.2.2 then (if ko.2.2≤(ko.2.1.size:Int) then (some (ko.2.1.extract (rz.2.2:Int).toNat (ko.2.2:Int).toNat,ko.1,ko.2.1,ko.2.2)) else (none)) else (none)) else (none)))))=some (r1,r2,r3,r4):=h
 clear h
 replace H:=Option.bind_eq_some_iff.mp H
 obtain ⟨⟨t163,t164,t165⟩,nU,H⟩:=H
 replace H:(if t163=true then (cr.l0 k ([]:List Int) t164 t165) else ((aK.f k t164 t165 46).bind fun ko=>(if 0≤t165 then (if t165≤ko.2.2 then (if ko.2.2≤(ko.2.1.size:Int) then (some (ko.2.1.extract (t165:Int).toNat (ko.2.2:Int).toNat,ko.1,ko.2.1,ko.2.2)) else (none)) else (none)) else (none))))=some (r1,r2,r3,r4):=H
 have A2:=ah.mk nU
 clear nU
 by_cases c3:t163=true
 ·subst c3
  have H1:(cr.l0 k ([]:List Int) t164 t165)=some (r1,r2,r3,r4):=by rw [if_pos rfl] at H;exact H
  clear H
  have H:=H1
  clear H1
  have H':=ah.mk H
  clear H
  go_enter Tryz.func123,Tryz.ntmps123
  go_wp2_with (first|(go_at_call 56;(with_reducible refine (bq.calls g fD cS 34 true t164 t165 w0 _ ?aX ?bT A2.out).mono ?_);(case aX=>repeat (first|(with_reducible first|exact dI.out|apply aA.alloc|apply aA.drewN|apply aA.drew|apply aA.fZ|apply aA.fV)|exact dI.out));(case bT=>repeat (first|(with_reducible first|exact HB.out|apply aB|apply aC|apply br|refine bh ?_ (aA.ge dI.out))|exact HB.out));rintro e w4 ⟨rfl,hi,hb,hk⟩;have bB:=ah.mk (bC.trans eP hk (.inl rfl));have bL:=ah.mk (hb);have bY:=ah.mk (hi);clear HK;clear HB;clear dI;have HK:=bB;have HB:=bL;have dI:=bY;clear bB bL bY;(try clear hb);(try clear hb2);(try clear hk);(try clear hi)))
  repeat (go_quiet (first|(go_at_call 56;(with_reducible refine (bq.calls g fD cS 34 true t164 t165 w0 _ ?aX ?bT A2.out).mono ?_);(case aX=>repeat (first|(with_reducible first|exact dI.out|apply aA.alloc|apply aA.drewN|apply aA.drew|apply aA.fZ|apply aA.fV)|exact dI.out));(case bT=>repeat (first|(with_reducible first|exact HB.out|apply aB|apply aC|apply br|refine bh ?_ (aA.ge dI.out))|exact HB.out));rintro e w4 ⟨rfl,hi,hb,hk⟩;have bB:=ah.mk (bC.trans eP hk (.inl rfl));have bL:=ah.mk (hb);have bY:=ah.mk (hi);clear HK;clear HB;clear dI;have HK:=bB;have HB:=bL;have dI:=bY;clear bB bL bY;(try clear hb);(try clear hb2);(try clear hk);(try clear hi)));try go_wp2_with (first|(go_at_call 56;(with_reducible refine (bq.calls g fD cS 34 true t164 t165 w0 _ ?aX ?bT A2.out).mono ?_);(case aX=>repeat (first|(with_reducible first|exact dI.out|apply aA.alloc|apply aA.drewN|apply aA.drew|apply aA.fZ|apply aA.fV)|exact dI.out));(case bT=>repeat (first|(with_reducible first|exact HB.out|apply aB|apply aC|apply br|refine bh ?_ (aA.ge dI.out))|exact HB.out));rintro e w4 ⟨rfl,hi,hb,hk⟩;have bB:=ah.mk (bC.trans eP hk (.inl rfl));have bL:=ah.mk (hb);have bY:=ah.mk (hi);clear HK;clear HB;clear dI;have HK:=bB;have HB:=bL;have dI:=bY;clear bB bL bY;(try clear hb);(try clear hb2);(try clear hk);(try clear hi))))
  go_loopg [6] k (fun kq v6 w'=>∃ (nK:List Int) (bE:ByteArray) (aZ:Int),ah (cr.l0 kq nK bE aZ=some (r1,r2,r3,r4))∧ah (kq≤k)∧ah (Kd.R (Kd.int .u8) 5 w' w.heap.size (fun _ =>True) v6 nK)∧ah (aA w0 w' g bE aZ)∧ah (bC w w' g none)∧ah (Below w0.heap.size w0 w'))
  case atStart=>exact ⟨(([]:List Int)),(t164),(t165),H',⟨Nat.le_refl _⟩,⟨xQ⟩,⟨iG⟩,⟨eP⟩,⟨iF⟩⟩
  case round=>
   clear H'
   try clear c1
   try clear p2
   try clear c3
   obtain ⟨nK,bE,aZ,HA,uX,mj,dI,HK,HB⟩:=hrel
   cases gk with
   |zero=>exact absurd HA.out (by simp [cr.l0])
   |succ k1=>
    have H:=HA.out
    clear HA
    simp only [cr.l0] at H
    by_cases c5:aZ < (bE.size:Int)
    ·rw [if_pos c5] at H
     have uB:decide (aZ < (bE.size:Int))=true:=decide_eq_true c5
     clear c5
     by_cases c6: 0≤aZ
     ·rw [if_pos c6] at H
      have pP:decide (0≤aZ)=true:=decide_eq_true c6
      clear c6
      by_cases c8:(bt bE aZ)=34
      ·rw [if_pos c8] at H
       have J3:((bt bE aZ) == 34)=true:=beq_iff_eq.mpr c8
       have abE:((bt bE aZ) != 34)=false:=bne_eq_false_iff_eq.mpr c8
       clear c8
       simp only [Option.some.injEq,Prod.mk.injEq] at H
       obtain ⟨rfl,rfl,rfl,rfl⟩:=H
       obtain ⟨pY,J1⟩:=dI.out
       have qF:=dV pY
       have qG:=dM pY
       have qH:=aa pY 0
       have qI:=aa pY 1
       clear pY J1
       have p7: 0≤(aZ:Int):=of_decide_eq_true cW
       have q7:aZ < (bE.size:Int):=of_decide_eq_true cW
       have Dj:=iw bE aZ
       replace p7:=eq_true p7
       replace q7:=eq_true q7
       have aor:∀ n_:Nat,Sem.run Tryz.prog (convert 23 9 u6) ((wr.drewN n_).setCell ⟨g,1,none⟩ (.int .i64 (wrap64 (aZ + 1))))= .ok (.string (strOfNums nK)) ((wr.drewN n_).setCell ⟨g,1,none⟩ (.int .i64 (wrap64 (aZ + 1)))):=fun n_ =>N6 (P:=Tryz.prog) Tryz.underlying23 Tryz.underlying5 Tryz.underlying9 (Kd.Vb ur)
       go_wp2
       repeat (go_quiet (fail);try go_wp2)
       go_ret2
       exact ⟨cR,iG,iF,eP⟩
      ·rw [if_neg c8] at H
       have J3:((bt bE aZ) == 34)=false:=beq_eq_false_iff_ne.mpr c8
       have abE:((bt bE aZ) != 34)=true:=bne_iff_ne.mpr c8
       by_cases c11:(bt bE aZ)=92
       ·rw [if_pos c11] at H
        have zn:((bt bE aZ) == 92)=true:=beq_iff_eq.mpr c11
        have L5:((bt bE aZ) != 92)=false:=bne_eq_false_iff_eq.mpr c11
        clear c11
        replace H:=Option.bind_eq_some_iff.mp H
        obtain ⟨⟨t169,t170,t171⟩,FI,H⟩:=H
        replace H:(if t169 < 32 then (some ((⟨#[]⟩:ByteArray),false,t170,wrap64 (t171 + 1))) else (if t169 > 126 then (some ((⟨#[]⟩:ByteArray),false,t170,wrap64 (t171 + 1))) else (if nK.length < 140737488355328 then (cr.l0 k1 (nK ++ [t169]) t170 (wrap64 (t171 + 1))) else (none))))=some (r1,r2,r3,r4):=H
        have Lp:=ah.mk FI
        clear FI
        by_cases c13:t169 < 32
        ·rw [if_pos c13] at H
         have FJ:decide (t169 < 32)=true:=decide_eq_true c13
         clear c13
         simp only [Option.some.injEq,Prod.mk.injEq] at H
         obtain ⟨rfl,rfl,rfl,rfl⟩:=H
         obtain ⟨Mi,ad6⟩:=dI.out
         have rP:=dV Mi
         have rQ:=dM Mi
         have rR:=aa Mi 0
         have rS:=aa Mi 1
         clear Mi ad6
         have p7: 0≤(aZ:Int):=of_decide_eq_true cW
         have q7:aZ < (bE.size:Int):=of_decide_eq_true cW
         have Dj:=iw bE aZ
         replace p7:=eq_true p7
         replace q7:=eq_true q7
         go_wp2_with (first|(go_at_call 115;(with_reducible refine (dh.calls g bE (wrap64 (aZ + 1)) t169 t170 t171 w0 _ ?aX ?bT Lp.out).mono ?_);(case aX=>repeat (first|(with_reducible first|exact dI.out|apply aA.alloc|apply aA.drewN|apply aA.drew|apply aA.fZ|apply aA.fV)|exact dI.out));(case bT=>repeat (first|(with_reducible first|exact HB.out|apply aB|apply aC|apply br|refine bh ?_ (aA.ge dI.out))|exact HB.out));rintro e Hj ⟨rfl,hi,hb,hk⟩;have bB:=ah.mk (Kd.ez (Kd.sG (aA.apart (show aA w0 _ g bE (wrap64 (aZ + 1)) from by repeat (first|(with_reducible first|exact dI.out|apply aA.alloc|apply aA.drewN|apply aA.drew|apply aA.fZ|apply aA.fV)|exact dI.out)) ur bU) hk (fun _ h=>h.2)) (fun _ h=>h.1));have bL:=ah.mk (bC.trans eP hk (.inl rfl));have bY:=ah.mk (hb);have cK:=ah.mk (hi);clear mj;clear HK;clear HB;clear dI;have mj:=bB;have HK:=bL;have HB:=bY;have dI:=cK;clear bB bL bY cK;(try clear hb);(try clear hb2);(try clear hk);(try clear hi);obtain ⟨rA,Mj⟩:=dI.out;have nO:=dV rA;have nP:=dM rA;have nQ:=aa rA 0;have nR:=aa rA 1;clear rA Mj))
         repeat (go_quiet (first|(go_at_call 115;(with_reducible refine (dh.calls g bE (wrap64 (aZ + 1)) t169 t170 t171 w0 _ ?aX ?bT Lp.out).mono ?_);(case aX=>repeat (first|(with_reducible first|exact dI.out|apply aA.alloc|apply aA.drewN|apply aA.drew|apply aA.fZ|apply aA.fV)|exact dI.out));(case bT=>repeat (first|(with_reducible first|exact HB.out|apply aB|apply aC|apply br|refine bh ?_ (aA.ge dI.out))|exact HB.out));rintro e Hj ⟨rfl,hi,hb,hk⟩;have bB:=ah.mk (Kd.ez (Kd.sG (aA.apart (show aA w0 _ g bE (wrap64 (aZ + 1)) from by repeat (first|(with_reducible first|exact dI.out|apply aA.alloc|apply aA.drewN|apply aA.drew|apply aA.fZ|apply aA.fV)|exact dI.out)) ur bU) hk (fun _ h=>h.2)) (fun _ h=>h.1));have bL:=ah.mk (bC.trans eP hk (.inl rfl));have bY:=ah.mk (hb);have cK:=ah.mk (hi);clear mj;clear HK;clear HB;clear dI;have mj:=bB;have HK:=bL;have HB:=bY;have dI:=cK;clear bB bL bY cK;(try clear hb);(try clear hb2);(try clear hk);(try clear hi);obtain ⟨rA,Mj⟩:=dI.out;have nO:=dV rA;have nP:=dM rA;have nQ:=aa rA 0;have nR:=aa rA 1;clear rA Mj));try go_wp2_with (first|(go_at_call 115;(with_reducible refine (dh.calls g bE (wrap64 (aZ + 1)) t169 t170 t171 w0 _ ?aX ?bT Lp.out).mono ?_);(case aX=>repeat (first|(with_reducible first|exact dI.out|apply aA.alloc|apply aA.drewN|apply aA.drew|apply aA.fZ|apply aA.fV)|exact dI.out));(case bT=>repeat (first|(with_reducible first|exact HB.out|apply aB|apply aC|apply br|refine bh ?_ (aA.ge dI.out))|exact HB.out));rintro e Hj ⟨rfl,hi,hb,hk⟩;have bB:=ah.mk (Kd.ez (Kd.sG (aA.apart (show aA w0 _ g bE (wrap64 (aZ + 1)) from by repeat (first|(with_reducible first|exact dI.out|apply aA.alloc|apply aA.drewN|apply aA.drew|apply aA.fZ|apply aA.fV)|exact dI.out)) ur bU) hk (fun _ h=>h.2)) (fun _ h=>h.1));have bL:=ah.mk (bC.trans eP hk (.inl rfl));have bY:=ah.mk (hb);have cK:=ah.mk (hi);clear mj;clear HK;clear HB;clear dI;have mj:=bB;have HK:=bL;have HB:=bY;have dI:=cK;clear bB bL bY cK;(try clear hb);(try clear hb2);(try clear hk);(try clear hi);obtain ⟨rA,Mj⟩:=dI.out;have nO:=dV rA;have nP:=dM rA;have nQ:=aa rA 0;have nR:=aa rA 1;clear rA Mj)))
         go_ret2
         exact ⟨cR,iG,iF,eP⟩
        ·rw [if_neg c13] at H
         have FJ:decide (t169 < 32)=false:=decide_eq_false c13
         clear c13
         by_cases c17:t169 > 126
         ·rw [if_pos c17] at H
          have Rx:decide (126 < t169)=true:=decide_eq_true c17
          clear c17
          simp only [Option.some.injEq,Prod.mk.injEq] at H
          obtain ⟨rfl,rfl,rfl,rfl⟩:=H
          obtain ⟨Mk,ad7⟩:=dI.out
          have yq:=dV Mk
          have yt:=dM Mk
          have yu:=aa Mk 0
          have yw:=aa Mk 1
          clear Mk ad7
          have p7: 0≤(aZ:Int):=of_decide_eq_true cW
          have q7:aZ < (bE.size:Int):=of_decide_eq_true cW
          have Dj:=iw bE aZ
          replace p7:=eq_true p7
          replace q7:=eq_true q7
          go_wp2_with (first|(go_at_call 115;(with_reducible refine (dh.calls g bE (wrap64 (aZ + 1)) t169 t170 t171 w0 _ ?aX ?bT Lp.out).mono ?_);(case aX=>repeat (first|(with_reducible first|exact dI.out|apply aA.alloc|apply aA.drewN|apply aA.drew|apply aA.fZ|apply aA.fV)|exact dI.out));(case bT=>repeat (first|(with_reducible first|exact HB.out|apply aB|apply aC|apply br|refine bh ?_ (aA.ge dI.out))|exact HB.out));rintro e ze ⟨rfl,hi,hb,hk⟩;have bB:=ah.mk (Kd.ez (Kd.sG (aA.apart (show aA w0 _ g bE (wrap64 (aZ + 1)) from by repeat (first|(with_reducible first|exact dI.out|apply aA.alloc|apply aA.drewN|apply aA.drew|apply aA.fZ|apply aA.fV)|exact dI.out)) ur bU) hk (fun _ h=>h.2)) (fun _ h=>h.1));have bL:=ah.mk (bC.trans eP hk (.inl rfl));have bY:=ah.mk (hb);have cK:=ah.mk (hi);clear mj;clear HK;clear HB;clear dI;have mj:=bB;have HK:=bL;have HB:=bY;have dI:=cK;clear bB bL bY cK;(try clear hb);(try clear hb2);(try clear hk);(try clear hi);obtain ⟨rB,Ml⟩:=dI.out;have EF:=dV rB;have EG:=dM rB;have EH:=aa rB 0;have EI:=aa rB 1;clear rB Ml))
          repeat (go_quiet (first|(go_at_call 115;(with_reducible refine (dh.calls g bE (wrap64 (aZ + 1)) t169 t170 t171 w0 _ ?aX ?bT Lp.out).mono ?_);(case aX=>repeat (first|(with_reducible first|exact dI.out|apply aA.alloc|apply aA.drewN|apply aA.drew|apply aA.fZ|apply aA.fV)|exact dI.out));(case bT=>repeat (first|(with_reducible first|exact HB.out|apply aB|apply aC|apply br|refine bh ?_ (aA.ge dI.out))|exact HB.out));rintro e ze ⟨rfl,hi,hb,hk⟩;have bB:=ah.mk (Kd.ez (Kd.sG (aA.apart (show aA w0 _ g bE (wrap64 (aZ + 1)) from by repeat (first|(with_reducible first|exact dI.out|apply aA.alloc|apply aA.drewN|apply aA.drew|apply aA.fZ|apply aA.fV)|exact dI.out)) ur bU) hk (fun _ h=>h.2)) (fun _ h=>h.1));have bL:=ah.mk (bC.trans eP hk (.inl rfl));have bY:=ah.mk (hb);have cK:=ah.mk (hi);clear mj;clear HK;clear HB;clear dI;have mj:=bB;have HK:=bL;have HB:=bY;have dI:=cK;clear bB bL bY cK;(try clear hb);(try clear hb2);(try clear hk);(try clear hi);obtain ⟨rB,Ml⟩:=dI.out;have EF:=dV rB;have EG:=dM rB;have EH:=aa rB 0;have EI:=aa rB 1;clear rB Ml));try go_wp2_with (first|(go_at_call 115;(with_reducible refine (dh.calls g bE (wrap64 (aZ + 1)) t169 t170 t171 w0 _ ?aX ?bT Lp.out).mono ?_);(case aX=>repeat (first|(with_reducible first|exact dI.out|apply aA.alloc|apply aA.drewN|apply aA.drew|apply aA.fZ|apply aA.fV)|exact dI.out));(case bT=>repeat (first|(with_reducible first|exact HB.out|apply aB|apply aC|apply br|refine bh ?_ (aA.ge dI.out))|exact HB.out));rintro e ze ⟨rfl,hi,hb,hk⟩;have bB:=ah.mk (Kd.ez (Kd.sG (aA.apart (show aA w0 _ g bE (wrap64 (aZ + 1)) from by repeat (first|(with_reducible first|exact dI.out|apply aA.alloc|apply aA.drewN|apply aA.drew|apply aA.fZ|apply aA.fV)|exact dI.out)) ur bU) hk (fun _ h=>h.2)) (fun _ h=>h.1));have bL:=ah.mk (bC.trans eP hk (.inl rfl));have bY:=ah.mk (hb);have cK:=ah.mk (hi);clear mj;clear HK;clear HB;clear dI;have mj:=bB;have HK:=bL;have HB:=bY;have dI:=cK;clear bB bL bY cK;(try clear hb);(try clear hb2);(try clear hk);(try clear hi);obtain ⟨rB,Ml⟩:=dI.out;have EF:=dV rB;have EG:=dM rB;have EH:=aa rB 0;have EI:=aa rB 1;clear rB Ml)))
          go_ret2
          exact ⟨cR,iG,iF,eP⟩
         ·rw [if_neg c17] at H
          have Rx:decide (126 < t169)=false:=decide_eq_false c17
          clear c17
          by_cases c21:nK.length < 140737488355328
          ·rw [if_pos c21] at H
           have VF:=ah.mk c21
           clear c21
           obtain ⟨ad8,Mm⟩:∃ y_:List Int,y_=(nK ++ [t169]):=⟨_,rfl⟩
           replace H:(cr.l0 k1 ad8 t170 (wrap64 (t171 + 1)))=some (r1,r2,r3,r4):=by first|(rw [Mm];with_reducible exact H)|(have OL:=(Option.bind_some _ _).symm.trans H;rw [Mm];with_reducible exact OL)|(have OL:=(Option.bind_some _ _).symm.trans H;with_reducible exact OL)|with_reducible exact H|(rw [Mm];exact H)|exact H
           have VG:=ah.mk Mm
           clear Mm
           have H':=ah.mk H
           clear H
           obtain ⟨Mn,ad9⟩:=dI.out
           have yx:=dV Mn
           have yz:=dM Mn
           have yA:=aa Mn 0
           have yB:=aa Mn 1
           clear Mn ad9
           have p7: 0≤(aZ:Int):=of_decide_eq_true cW
           have q7:aZ < (bE.size:Int):=of_decide_eq_true cW
           have Dj:=iw bE aZ
           replace p7:=eq_true p7
           replace q7:=eq_true q7
           go_wp2_with (first|(go_at_call 115;(with_reducible refine (dh.calls g bE (wrap64 (aZ + 1)) t169 t170 t171 w0 _ ?aX ?bT Lp.out).mono ?_);(case aX=>repeat (first|(with_reducible first|exact dI.out|apply aA.alloc|apply aA.drewN|apply aA.drew|apply aA.fZ|apply aA.fV)|exact dI.out));(case bT=>repeat (first|(with_reducible first|exact HB.out|apply aB|apply aC|apply br|refine bh ?_ (aA.ge dI.out))|exact HB.out));rintro e Mo ⟨rfl,hi,hb,hk⟩;have bB:=ah.mk (Kd.ez (Kd.sG (aA.apart (show aA w0 _ g bE (wrap64 (aZ + 1)) from by repeat (first|(with_reducible first|exact dI.out|apply aA.alloc|apply aA.drewN|apply aA.drew|apply aA.fZ|apply aA.fV)|exact dI.out)) ur bU) hk (fun _ h=>h.2)) (fun _ h=>h.1));have bL:=ah.mk (bC.trans eP hk (.inl rfl));have bY:=ah.mk (hb);have cK:=ah.mk (hi);clear mj;clear HK;clear HB;clear dI;have mj:=bB;have HK:=bL;have HB:=bY;have dI:=cK;clear bB bL bY cK;(try clear hb);(try clear hb2);(try clear hk);(try clear hi);obtain ⟨rC,Mp⟩:=dI.out;have vS:=dV rC;have vT:=dM rC;have vU:=aa rC 0;have vV:=aa rC 1;clear rC Mp)|((with_reducible refine lH (b:= .append) (xs:=#[.tmp 77,.tmp 79]) rfl ?_);at_builtin;refine Kd.qX (Kd.int .u8) w.heap.size rfl (.tmp 77) (.tmp 79) 23 5 (.int .u8 0) 1 rfl Tryz.underlying23 G9 rfl bU aq u6 nK t169 [.int .u8 t169] (fun _ =>True) (fun _ =>False) rfl sZ ?aP (fun _ hk=>hk.elim) ?aF ?aO (Below.refl _ _) ?aS ?aL ?_;(case aP=>exact rfl);(case aF=>exact (fun _ _ =>trivial));(case aO=>exact IA);(case aS=>exact (pG (w:=w) (g:=g) (row:=none) eP));(case aL=>have:=VF.out;omega);intro v173 Tf ho hb hg hat;rw [← VG.out] at ho;have bB:=ah.mk (aA.grown iG hg (aA.own_ne dI.out mj.out bU));have bL:=ah.mk (bp iF HL.out hb);have bY:=ah.mk (bC.trans eP (bC.pU hg g) (Kd.uZ mj.out));have cK:=ah.mk (ho);clear dI;clear HB;clear HK;clear mj;have dI:=bB;have HB:=bL;have HK:=bY;have VH:=cK;clear bB bL bY cK;clear ho hb hg hat))
           repeat (go_quiet (first|(go_at_call 115;(with_reducible refine (dh.calls g bE (wrap64 (aZ + 1)) t169 t170 t171 w0 _ ?aX ?bT Lp.out).mono ?_);(case aX=>repeat (first|(with_reducible first|exact dI.out|apply aA.alloc|apply aA.drewN|apply aA.drew|apply aA.fZ|apply aA.fV)|exact dI.out));(case bT=>repeat (first|(with_reducible first|exact HB.out|apply aB|apply aC|apply br|refine bh ?_ (aA.ge dI.out))|exact HB.out));rintro e Mo ⟨rfl,hi,hb,hk⟩;have bB:=ah.mk (Kd.ez (Kd.sG (aA.apart (show aA w0 _ g bE (wrap64 (aZ + 1)) from by repeat (first|(with_reducible first|exact dI.out|apply aA.alloc|apply aA.drewN|apply aA.drew|apply aA.fZ|apply aA.fV)|exact dI.out)) ur bU) hk (fun _ h=>h.2)) (fun _ h=>h.1));have bL:=ah.mk (bC.trans eP hk (.inl rfl));have bY:=ah.mk (hb);have cK:=ah.mk (hi);clear mj;clear HK;clear HB;clear dI;have mj:=bB;have HK:=bL;have HB:=bY;have dI:=cK;clear bB bL bY cK;(try clear hb);(try clear hb2);(try clear hk);(try clear hi);obtain ⟨rC,Mp⟩:=dI.out;have vS:=dV rC;have vT:=dM rC;have vU:=aa rC 0;have vV:=aa rC 1;clear rC Mp)|((with_reducible refine lH (b:= .append) (xs:=#[.tmp 77,.tmp 79]) rfl ?_);at_builtin;refine Kd.qX (Kd.int .u8) w.heap.size rfl (.tmp 77) (.tmp 79) 23 5 (.int .u8 0) 1 rfl Tryz.underlying23 G9 rfl bU aq u6 nK t169 [.int .u8 t169] (fun _ =>True) (fun _ =>False) rfl sZ ?aP (fun _ hk=>hk.elim) ?aF ?aO (Below.refl _ _) ?aS ?aL ?_;(case aP=>exact rfl);(case aF=>exact (fun _ _ =>trivial));(case aO=>exact IA);(case aS=>exact (pG (w:=w) (g:=g) (row:=none) eP));(case aL=>have:=VF.out;omega);intro v173 Tf ho hb hg hat;rw [← VG.out] at ho;have bB:=ah.mk (aA.grown iG hg (aA.own_ne dI.out mj.out bU));have bL:=ah.mk (bp iF HL.out hb);have bY:=ah.mk (bC.trans eP (bC.pU hg g) (Kd.uZ mj.out));have cK:=ah.mk (ho);clear dI;clear HB;clear HK;clear mj;have dI:=bB;have HB:=bL;have HK:=bY;have VH:=cK;clear bB bL bY cK;clear ho hb hg hat));try go_wp2_with (first|(go_at_call 115;(with_reducible refine (dh.calls g bE (wrap64 (aZ + 1)) t169 t170 t171 w0 _ ?aX ?bT Lp.out).mono ?_);(case aX=>repeat (first|(with_reducible first|exact dI.out|apply aA.alloc|apply aA.drewN|apply aA.drew|apply aA.fZ|apply aA.fV)|exact dI.out));(case bT=>repeat (first|(with_reducible first|exact HB.out|apply aB|apply aC|apply br|refine bh ?_ (aA.ge dI.out))|exact HB.out));rintro e Mo ⟨rfl,hi,hb,hk⟩;have bB:=ah.mk (Kd.ez (Kd.sG (aA.apart (show aA w0 _ g bE (wrap64 (aZ + 1)) from by repeat (first|(with_reducible first|exact dI.out|apply aA.alloc|apply aA.drewN|apply aA.drew|apply aA.fZ|apply aA.fV)|exact dI.out)) ur bU) hk (fun _ h=>h.2)) (fun _ h=>h.1));have bL:=ah.mk (bC.trans eP hk (.inl rfl));have bY:=ah.mk (hb);have cK:=ah.mk (hi);clear mj;clear HK;clear HB;clear dI;have mj:=bB;have HK:=bL;have HB:=bY;have dI:=cK;clear bB bL bY cK;(try clear hb);(try clear hb2);(try clear hk);(try clear hi);obtain ⟨rC,Mp⟩:=dI.out;have vS:=dV rC;have vT:=dM rC;have vU:=aa rC 0;have vV:=aa rC 1;clear rC Mp)|((with_reducible refine lH (b:= .append) (xs:=#[.tmp 77,.tmp 79]) rfl ?_);at_builtin;refine Kd.qX (Kd.int .u8) w.heap.size rfl (.tmp 77) (.tmp 79) 23 5 (.int .u8 0) 1 rfl Tryz.underlying23 G9 rfl bU aq u6 nK t169 [.int .u8 t169] (fun _ =>True) (fun _ =>False) rfl sZ ?aP (fun _ hk=>hk.elim) ?aF ?aO (Below.refl _ _) ?aS ?aL ?_;(case aP=>exact rfl);(case aF=>exact (fun _ _ =>trivial));(case aO=>exact IA);(case aS=>exact (pG (w:=w) (g:=g) (row:=none) eP));(case aL=>have:=VF.out;omega);intro v173 Tf ho hb hg hat;rw [← VG.out] at ho;have bB:=ah.mk (aA.grown iG hg (aA.own_ne dI.out mj.out bU));have bL:=ah.mk (bp iF HL.out hb);have bY:=ah.mk (bC.trans eP (bC.pU hg g) (Kd.uZ mj.out));have cK:=ah.mk (ho);clear dI;clear HB;clear HK;clear mj;have dI:=bB;have HB:=bL;have HK:=bY;have VH:=cK;clear bB bL bY cK;clear ho hb hg hat)))
           go_roundg k1
           case measure=>have:=uX.out;omega
           case rel=>exact ⟨(ad8),(t170),(wrap64 (t171 + 1)),H',⟨j6⟩,⟨by (with_reducible repeat (first|apply Kd.dR|apply Kd.dW|apply Kd.eW));exact VH.out⟩,⟨iG⟩,⟨eP⟩,⟨iF⟩⟩
          ·rw [if_neg c21] at H
           exact absurd H bn
       ·rw [if_neg c11] at H
        have zn:((bt bE aZ) == 92)=false:=beq_eq_false_iff_ne.mpr c11
        have L5:((bt bE aZ) != 92)=true:=bne_iff_ne.mpr c11
        by_cases T6:(bt bE aZ) < 32
        ·rw [if_pos T6] at H
         have aea:decide ((bt bE aZ) < 32)=true:=decide_eq_true T6
         clear T6
         simp only [Option.some.injEq,Prod.mk.injEq] at H
         obtain ⟨rfl,rfl,rfl,rfl⟩:=H
         obtain ⟨Mq,aeb⟩:=dI.out
         have Qy:=dV Mq
         have Qz:=dM Mq
         have QA:=aa Mq 0
         have QB:=aa Mq 1
         clear Mq aeb
         have p7: 0≤(aZ:Int):=of_decide_eq_true cW
         have q7:aZ < (bE.size:Int):=of_decide_eq_true cW
         have Dj:=iw bE aZ
         replace p7:=eq_true p7
         replace q7:=eq_true q7
         go_wp2
         repeat (go_quiet (fail);try go_wp2)
         go_ret2
         exact ⟨cR,iG,iF,eP⟩
        ·rw [if_neg T6] at H
         have aea:decide ((bt bE aZ) < 32)=false:=decide_eq_false T6
         clear T6
         by_cases c28:(bt bE aZ) > 126
         ·rw [if_pos c28] at H
          have Hl:decide (126 < (bt bE aZ))=true:=decide_eq_true c28
          clear c28
          simp only [Option.some.injEq,Prod.mk.injEq] at H
          obtain ⟨rfl,rfl,rfl,rfl⟩:=H
          obtain ⟨Mr,aec⟩:=dI.out
          have Ap:=dV Mr
          have Aq:=dM Mr
          have Ar:=aa Mr 0
          have Au:=aa Mr 1
          clear Mr aec
          have p7: 0≤(aZ:Int):=of_decide_eq_true cW
          have q7:aZ < (bE.size:Int):=of_decide_eq_true cW
          have Dj:=iw bE aZ
          replace p7:=eq_true p7
          replace q7:=eq_true q7
          go_wp2
          repeat (go_quiet (fail);try go_wp2)
          go_ret2
          exact ⟨cR,iG,iF,eP⟩
         ·rw [if_neg c28] at H
          have Hl:decide (126 < (bt bE aZ))=false:=decide_eq_false c28
          clear c28
          by_cases Ou:nK.length < 140737488355328
          ·rw [if_pos Ou] at H
           have VI:=ah.mk Ou
           clear Ou
           obtain ⟨aed,Ms⟩:∃ y_:List Int,y_=(nK ++ [bt bE aZ]):=⟨_,rfl⟩
           replace H:(cr.l0 k1 aed bE (wrap64 (aZ + 1)))=some (r1,r2,r3,r4):=by first|(rw [Ms];with_reducible exact H)|(have OL:=(Option.bind_some _ _).symm.trans H;rw [Ms];with_reducible exact OL)|(have OL:=(Option.bind_some _ _).symm.trans H;with_reducible exact OL)|with_reducible exact H|(rw [Ms];exact H)|exact H
           have VJ:=ah.mk Ms
           clear Ms
           have H':=ah.mk H
           clear H
           obtain ⟨Mt,aee⟩:=dI.out
           have yN:=dV Mt
           have yO:=dM Mt
           have yP:=aa Mt 0
           have yQ:=aa Mt 1
           clear Mt aee
           have p7: 0≤(aZ:Int):=of_decide_eq_true cW
           have q7:aZ < (bE.size:Int):=of_decide_eq_true cW
           have Dj:=iw bE aZ
           replace p7:=eq_true p7
           replace q7:=eq_true q7
           go_wp2_with (first|((with_reducible refine lH (b:= .append) (xs:=#[.tmp 77,.tmp 79]) rfl ?_);at_builtin;refine Kd.qX (Kd.int .u8) w.heap.size rfl (.tmp 77) (.tmp 79) 23 5 (.int .u8 0) 1 rfl Tryz.underlying23 G9 rfl bU aq u6 nK (bt bE aZ) [.int .u8 (bt bE aZ)] (fun _ =>True) (fun _ =>False) rfl sZ ?aP (fun _ hk=>hk.elim) ?aF ?aO (Below.refl _ _) ?aS ?aL ?_;(case aP=>exact rfl);(case aF=>exact (fun _ _ =>trivial));(case aO=>exact Iz);(case aS=>exact (pG (w:=w) (g:=g) (row:=none) eP));(case aL=>have:=VI.out;omega);intro aef EJ ho hb hg hat;rw [← VJ.out] at ho;have bB:=ah.mk (aA.grown iG hg (aA.own_ne dI.out mj.out bU));have bL:=ah.mk (bp iF HL.out hb);have bY:=ah.mk (bC.trans eP (bC.pU hg g) (Kd.uZ mj.out));have cK:=ah.mk (ho);clear dI;clear HB;clear HK;clear mj;have dI:=bB;have HB:=bL;have HK:=bY;have VK:=cK;clear bB bL bY cK;clear ho hb hg hat))
           repeat (go_quiet (first|((with_reducible refine lH (b:= .append) (xs:=#[.tmp 77,.tmp 79]) rfl ?_);at_builtin;refine Kd.qX (Kd.int .u8) w.heap.size rfl (.tmp 77) (.tmp 79) 23 5 (.int .u8 0) 1 rfl Tryz.underlying23 G9 rfl bU aq u6 nK (bt bE aZ) [.int .u8 (bt bE aZ)] (fun _ =>True) (fun _ =>False) rfl sZ ?aP (fun _ hk=>hk.elim) ?aF ?aO (Below.refl _ _) ?aS ?aL ?_;(case aP=>exact rfl);(case aF=>exact (fun _ _ =>trivial));(case aO=>exact Iz);(case aS=>exact (pG (w:=w) (g:=g) (row:=none) eP));(case aL=>have:=VI.out;omega);intro aef EJ ho hb hg hat;rw [← VJ.out] at ho;have bB:=ah.mk (aA.grown iG hg (aA.own_ne dI.out mj.out bU));have bL:=ah.mk (bp iF HL.out hb);have bY:=ah.mk (bC.trans eP (bC.pU hg g) (Kd.uZ mj.out));have cK:=ah.mk (ho);clear dI;clear HB;clear HK;clear mj;have dI:=bB;have HB:=bL;have HK:=bY;have VK:=cK;clear bB bL bY cK;clear ho hb hg hat));try go_wp2_with (first|((with_reducible refine lH (b:= .append) (xs:=#[.tmp 77,.tmp 79]) rfl ?_);at_builtin;refine Kd.qX (Kd.int .u8) w.heap.size rfl (.tmp 77) (.tmp 79) 23 5 (.int .u8 0) 1 rfl Tryz.underlying23 G9 rfl bU aq u6 nK (bt bE aZ) [.int .u8 (bt bE aZ)] (fun _ =>True) (fun _ =>False) rfl sZ ?aP (fun _ hk=>hk.elim) ?aF ?aO (Below.refl _ _) ?aS ?aL ?_;(case aP=>exact rfl);(case aF=>exact (fun _ _ =>trivial));(case aO=>exact Iz);(case aS=>exact (pG (w:=w) (g:=g) (row:=none) eP));(case aL=>have:=VI.out;omega);intro aef EJ ho hb hg hat;rw [← VJ.out] at ho;have bB:=ah.mk (aA.grown iG hg (aA.own_ne dI.out mj.out bU));have bL:=ah.mk (bp iF HL.out hb);have bY:=ah.mk (bC.trans eP (bC.pU hg g) (Kd.uZ mj.out));have cK:=ah.mk (ho);clear dI;clear HB;clear HK;clear mj;have dI:=bB;have HB:=bL;have HK:=bY;have VK:=cK;clear bB bL bY cK;clear ho hb hg hat)))
           go_roundg k1
           case measure=>have:=uX.out;omega
           case rel=>exact ⟨(aed),(bE),(wrap64 (aZ + 1)),H',⟨j6⟩,⟨by (with_reducible repeat (first|apply Kd.dR|apply Kd.dW|apply Kd.eW));exact VK.out⟩,⟨iG⟩,⟨eP⟩,⟨iF⟩⟩
          ·rw [if_neg Ou] at H
           exact absurd H bn
     ·rw [if_neg c6] at H
      exact absurd H bn
    ·rw [if_neg c5] at H
     have uB:decide (aZ < (bE.size:Int))=false:=decide_eq_false c5
     clear c5
     simp only [Option.some.injEq,Prod.mk.injEq] at H
     obtain ⟨rfl,rfl,rfl,rfl⟩:=H
     obtain ⟨Mu,aeg⟩:=dI.out
     have Ry:=dV Mu
     have Rz:=dM Mu
     have RA:=aa Mu 0
     have RB:=aa Mu 1
     clear Mu aeg
     go_wp2
     repeat (go_quiet (fail);try go_wp2)
     go_ret2
     exact ⟨cR,iG,iF,eP⟩
 ·replace c3:=Bool.eq_false_iff.mpr c3
  subst c3
  have H1:((aK.f k t164 t165 46).bind fun ko=>(if 0≤t165 then (if t165≤ko.2.2 then (if ko.2.2≤(ko.2.1.size:Int) then (some (ko.2.1.extract (t165:Int).toNat (ko.2.2:Int).toNat,ko.1,ko.2.1,ko.2.2)) else (none)) else (none)) else (none)))=some (r1,r2,r3,r4):=by rw [if_neg (show ¬ (false=true) by decide)] at H;exact H
  clear H
  have H:=H1
  clear H1
  replace H:=Option.bind_eq_some_iff.mp H
  obtain ⟨⟨t166,t167,t168⟩,VL,H⟩:=H
  replace H:(if 0≤t165 then (if t165≤t168 then (if t168≤(t167.size:Int) then (some (t167.extract (t165:Int).toNat (t168:Int).toNat,t166,t167,t168)) else (none)) else (none)) else (none))=some (r1,r2,r3,r4):=H
  have A34:=ah.mk VL
  clear VL
  by_cases c35: 0≤t165
  ·rw [if_pos c35] at H
   have aos:=eq_true c35
   have aot:decide (0≤t165)=true:=decide_eq_true c35
   clear c35
   by_cases c36:t165≤t168
   ·rw [if_pos c36] at H
    have aou:=eq_true c36
    have aov:decide (t165≤t168)=true:=decide_eq_true c36
    clear c36
    by_cases c37:t168≤(t167.size:Int)
    ·rw [if_pos c37] at H
     have aek:=eq_true c37
     have ael:decide (t168≤(t167.size:Int))=true:=decide_eq_true c37
     clear c37
     simp only [Option.some.injEq,Prod.mk.injEq] at H
     obtain ⟨rfl,rfl,rfl,rfl⟩:=H
     go_enter Tryz.func123,Tryz.ntmps123
     go_wp2_with (first|(go_at_call 56;(with_reducible refine (bq.calls g fD cS 34 false t164 t165 w0 _ ?aX ?bT A2.out).mono ?_);(case aX=>repeat (first|(with_reducible first|exact dI.out|apply aA.alloc|apply aA.drewN|apply aA.drew|apply aA.fZ|apply aA.fV)|exact dI.out));(case bT=>repeat (first|(with_reducible first|exact HB.out|apply aB|apply aC|apply br|refine bh ?_ (aA.ge dI.out))|exact HB.out));rintro e Ua ⟨rfl,hi,hb,hk⟩;have bB:=ah.mk (bC.trans eP hk (.inl rfl));have bL:=ah.mk (hb);have bY:=ah.mk (hi);clear HK;clear HB;clear dI;have HK:=bB;have HB:=bL;have dI:=bY;clear bB bL bY;(try clear hb);(try clear hb2);(try clear hk);(try clear hi);obtain ⟨rD,Mv⟩:=dI.out;have AZ:=dV rD;have Ba:=dM rD;have Bb:=aa rD 0;have Bc:=aa rD 1;clear rD Mv)|(go_at_call 67;(with_reducible refine (aK.calls k g t164 t165 46 t166 t167 t168 w0 _ ?aX ?bT A34.out).mono ?_);(case aX=>repeat (first|(with_reducible first|exact dI.out|apply aA.alloc|apply aA.drewN|apply aA.drew|apply aA.fZ|apply aA.fV)|exact dI.out));(case bT=>repeat (first|(with_reducible first|exact HB.out|apply aB|apply aC|apply br|refine bh ?_ (aA.ge dI.out))|exact HB.out));rintro e w40 ⟨rfl,hi,hb,hk⟩;have bB:=ah.mk (bC.trans eP hk (.inl rfl));have bL:=ah.mk (hb);have bY:=ah.mk (hi);clear HK;clear HB;clear dI;have HK:=bB;have HB:=bL;have dI:=bY;clear bB bL bY;(try clear hb);(try clear hb2);(try clear hk);(try clear hi);obtain ⟨rE,Mw⟩:=dI.out;have RD:=dV rE;have RF:=dM rE;have RG:=aa rE 0;have RH:=aa rE 1;clear rE Mw))
     repeat (go_quiet (first|(go_at_call 56;(with_reducible refine (bq.calls g fD cS 34 false t164 t165 w0 _ ?aX ?bT A2.out).mono ?_);(case aX=>repeat (first|(with_reducible first|exact dI.out|apply aA.alloc|apply aA.drewN|apply aA.drew|apply aA.fZ|apply aA.fV)|exact dI.out));(case bT=>repeat (first|(with_reducible first|exact HB.out|apply aB|apply aC|apply br|refine bh ?_ (aA.ge dI.out))|exact HB.out));rintro e Ua ⟨rfl,hi,hb,hk⟩;have bB:=ah.mk (bC.trans eP hk (.inl rfl));have bL:=ah.mk (hb);have bY:=ah.mk (hi);clear HK;clear HB;clear dI;have HK:=bB;have HB:=bL;have dI:=bY;clear bB bL bY;(try clear hb);(try clear hb2);(try clear hk);(try clear hi);obtain ⟨rD,Mv⟩:=dI.out;have AZ:=dV rD;have Ba:=dM rD;have Bb:=aa rD 0;have Bc:=aa rD 1;clear rD Mv)|(go_at_call 67;(with_reducible refine (aK.calls k g t164 t165 46 t166 t167 t168 w0 _ ?aX ?bT A34.out).mono ?_);(case aX=>repeat (first|(with_reducible first|exact dI.out|apply aA.alloc|apply aA.drewN|apply aA.drew|apply aA.fZ|apply aA.fV)|exact dI.out));(case bT=>repeat (first|(with_reducible first|exact HB.out|apply aB|apply aC|apply br|refine bh ?_ (aA.ge dI.out))|exact HB.out));rintro e w40 ⟨rfl,hi,hb,hk⟩;have bB:=ah.mk (bC.trans eP hk (.inl rfl));have bL:=ah.mk (hb);have bY:=ah.mk (hi);clear HK;clear HB;clear dI;have HK:=bB;have HB:=bL;have dI:=bY;clear bB bL bY;(try clear hb);(try clear hb2);(try clear hk);(try clear hi);obtain ⟨rE,Mw⟩:=dI.out;have RD:=dV rE;have RF:=dM rE;have RG:=aa rE 0;have RH:=aa rE 1;clear rE Mw));try go_wp2_with (first|(go_at_call 56;(with_reducible refine (bq.calls g fD cS 34 false t164 t165 w0 _ ?aX ?bT A2.out).mono ?_);(case aX=>repeat (first|(with_reducible first|exact dI.out|apply aA.alloc|apply aA.drewN|apply aA.drew|apply aA.fZ|apply aA.fV)|exact dI.out));(case bT=>repeat (first|(with_reducible first|exact HB.out|apply aB|apply aC|apply br|refine bh ?_ (aA.ge dI.out))|exact HB.out));rintro e Ua ⟨rfl,hi,hb,hk⟩;have bB:=ah.mk (bC.trans eP hk (.inl rfl));have bL:=ah.mk (hb);have bY:=ah.mk (hi);clear HK;clear HB;clear dI;have HK:=bB;have HB:=bL;have dI:=bY;clear bB bL bY;(try clear hb);(try clear hb2);(try clear hk);(try clear hi);obtain ⟨rD,Mv⟩:=dI.out;have AZ:=dV rD;have Ba:=dM rD;have Bb:=aa rD 0;have Bc:=aa rD 1;clear rD Mv)|(go_at_call 67;(with_reducible refine (aK.calls k g t164 t165 46 t166 t167 t168 w0 _ ?aX ?bT A34.out).mono ?_);(case aX=>repeat (first|(with_reducible first|exact dI.out|apply aA.alloc|apply aA.drewN|apply aA.drew|apply aA.fZ|apply aA.fV)|exact dI.out));(case bT=>repeat (first|(with_reducible first|exact HB.out|apply aB|apply aC|apply br|refine bh ?_ (aA.ge dI.out))|exact HB.out));rintro e w40 ⟨rfl,hi,hb,hk⟩;have bB:=ah.mk (bC.trans eP hk (.inl rfl));have bL:=ah.mk (hb);have bY:=ah.mk (hi);clear HK;clear HB;clear dI;have HK:=bB;have HB:=bL;have dI:=bY;clear bB bL bY;(try clear hb);(try clear hb2);(try clear hk);(try clear hi);obtain ⟨rE,Mw⟩:=dI.out;have RD:=dV rE;have RF:=dM rE;have RG:=aa rE 0;have RH:=aa rE 1;clear rE Mw)))
     go_ret2
     exact ⟨cR,iG,iF,eP⟩
    ·rw [if_neg c37] at H
     exact absurd H bn
   ·rw [if_neg c36] at H
    exact absurd H bn
  ·rw [if_neg c35] at H
   exact absurd H bn
def gF.f (a0:Int):Option (Bool):=some (a0 != 93)
set_option maxHeartbeats 8000000 in
set_option maxRecDepth 100000 in
theorem gF.calls (a0:Int) (r:Bool) (w:World) (h:gF.f a0=some r):
 Calls Tryz.prog 124 #[.int .u8 a0] w fun e w'=>e= .returned (.bool r)∧kg w w':=by
 have H:(some (a0 != 93))=some r:=h
 clear h
 obtain rfl:=Option.some.inj H
 go_enter Tryz.func124,Tryz.ntmps124
 go_wp2
 go_ret
 exact ⟨ey,kH⟩
def aR.l0:Nat→Int→ByteArray→Int→Option (ByteArray×Bool×ByteArray×Int)
 | 0,_,_,_ =>none
 |k + 1,x6,iB,gi=>if gi < (iB.size:Int) then (if 0≤gi then ((gF.f (bt iB gi)).bind fun t178=>(if t178=true then (aR.l0 k x6 iB (wrap64 (gi + 1))) else (if 0≤x6 then (if x6≤gi then (if gi≤(iB.size:Int) then (some (iB.extract (x6:Int).toNat (gi:Int).toNat,decide (gi > x6),iB,gi)) else (none)) else (none)) else (none)))) else (none)) else (if 0≤x6 then (if x6≤gi then (if gi≤(iB.size:Int) then (some (iB.extract (x6:Int).toNat (gi:Int).toNat,decide (gi > x6),iB,gi)) else (none)) else (none)) else (none))
def aR.f (k:Nat) (fD:ByteArray) (cS:Int):Option (ByteArray×Bool×ByteArray×Int):=aR.l0 k cS fD cS
theorem aR.gf:∀ k,(∀ y0 y1 y2,cN (aR.l0 k y0 y1 y2) (aR.l0 (k + 1) y0 y1 y2))
 | 0=>fun _ _ _ r h=>by simp [aR.l0] at h
 |k + 1=>by
  have oo:=aR.gf k
  ·intro y0 y1 y2
   unfold aR.l0
   repeat' first
   |(with_reducible exact oo _ _ _)
   |(with_reducible exact cN.refl _)
   |(with_reducible exact cN.none _)
   |(with_reducible refine cN.ite ?_ ?_)
   |(with_reducible refine cN.bind ?_ (fun _ =>?_))
   |refine cN.ite ?_ ?_
   |refine cN.bind ?_ (fun _ =>?_)
theorem aR.mono:∀ a0 a1 k,cN (aR.f k a0 a1) (aR.f (k + 1) a0 a1):=by
 intro a0 a1 k
 have oo:=aR.gf k
 unfold aR.f
 repeat' first
  |(with_reducible exact oo _ _ _)
  |(with_reducible exact cN.refl _)
  |(with_reducible exact cN.none _)
  |(with_reducible refine cN.ite ?_ ?_)
  |(with_reducible refine cN.bind ?_ (fun _ =>?_))
  |refine cN.ite ?_ ?_
  |refine cN.bind ?_ (fun _ =>?_)
set_option maxHeartbeats 8000000 in
set_option maxRecDepth 100000 in
theorem aR.calls (k:Nat) (g:Nat) (fD:ByteArray) (cS:Int) (r1:ByteArray) (r2:Bool) (r3:ByteArray) (r4:Int) (w0 w:World) (hI:aA w0 w g fD cS) (hB:Below w0.heap.size w0 w) (h:aR.f k fD cS=some (r1,r2,r3,r4)):
 Calls Tryz.prog 119 #[.pointer (some ⟨g,0,none⟩),.func (.func 124) #[] #[]] w fun e w'=>e= .returned (.tuple #[.string r1,.bool r2])∧aA w0 w' g r3 r4∧Below w0.heap.size w0 w'∧bC w w' g none:=by
 have dI:=ah.mk hI
 have HK:=ah.mk (bC.refl w g none)
 have HL:=ah.mk hB.size
 clear hI
 have T9:=ah.mk hB.size
 have HB:=ah.mk hB
 clear hB
 have H:(aR.l0 k cS fD cS)=some (r1,r2,r3,r4):=h
 clear h
 have H':=ah.mk H
 clear H
 obtain ⟨xx,Vs⟩:=dI.out
 have uC:=dV xx
 have uD:=dM xx
 have uE:=aa xx 0
 have uF:=aa xx 1
 clear xx Vs
 go_enter Tryz.func119,Tryz.ntmps119
 go_wp2
 repeat (go_quiet (fail);try go_wp2)
 go_loopg [] k (fun kq w'=>∃ (bE:ByteArray) (aZ:Int),ah (aR.l0 kq cS bE aZ=some (r1,r2,r3,r4))∧ah (kq≤k)∧ah (aA w0 w' g bE aZ)∧ah (bC w w' g none)∧ah (Below w0.heap.size w0 w'))
 case atStart=>exact ⟨(fD),(cS),H',⟨Nat.le_refl _⟩,⟨iG⟩,⟨eP⟩,⟨iF⟩⟩
 case round=>
  clear H'
  try clear c1
  try clear p2
  try clear uC
  try clear uD
  try clear uE
  try clear uF
  obtain ⟨bE,aZ,HA,uX,dI,HK,HB⟩:=hrel
  cases gk with
  |zero=>exact absurd HA.out (by simp [aR.l0])
  |succ k1=>
   have H:=HA.out
   clear HA
   simp only [aR.l0] at H
   by_cases c4:aZ < (bE.size:Int)
   ·rw [if_pos c4] at H
    have o9:decide (aZ < (bE.size:Int))=true:=decide_eq_true c4
    clear c4
    by_cases c5: 0≤aZ
    ·rw [if_pos c5] at H
     have uB:decide (0≤aZ)=true:=decide_eq_true c5
     clear c5
     replace H:=Option.bind_eq_some_iff.mp H
     obtain ⟨t178,Hg,H⟩:=H
     replace H:(if t178=true then (aR.l0 k1 cS bE (wrap64 (aZ + 1))) else (if 0≤cS then (if cS≤aZ then (if aZ≤(bE.size:Int) then (some (bE.extract (cS:Int).toNat (aZ:Int).toNat,decide (aZ > cS),bE,aZ)) else (none)) else (none)) else (none)))=some (r1,r2,r3,r4):=H
     have A7:=ah.mk Hg
     clear Hg
     by_cases c8:t178=true
     ·subst c8
      have H1:(aR.l0 k1 cS bE (wrap64 (aZ + 1)))=some (r1,r2,r3,r4):=by rw [if_pos rfl] at H;exact H
      clear H
      have H:=H1
      clear H1
      have H':=ah.mk H
      clear H
      obtain ⟨pY,J1⟩:=dI.out
      have qF:=dV pY
      have qG:=dM pY
      have qH:=aa pY 0
      have qI:=aa pY 1
      clear pY J1
      have p6: 0≤(aZ:Int):=of_decide_eq_true cW
      have q6:aZ < (bE.size:Int):=of_decide_eq_true cW
      have hx6:=iw bE aZ
      replace p6:=eq_true p6
      replace q6:=eq_true q6
      go_wp2_with (first|(go_at_call 124;(with_reducible refine (gF.calls (bt bE aZ) true _ A7.out).mono ?_);rintro e w' ⟨rfl,⟨nd,rfl⟩⟩;(try first|exact ⟨rfl,_,World.drewN_drewN _ _ _⟩|exact ⟨rfl,_,Eq.trans (World.drewN_drewN _ _ _) (congrArg (World.drewN _) (Nat.add_assoc _ _ _))⟩)))
      repeat (go_quiet (first|(go_at_call 124;(with_reducible refine (gF.calls (bt bE aZ) true _ A7.out).mono ?_);rintro e w' ⟨rfl,⟨nd,rfl⟩⟩;(try first|exact ⟨rfl,_,World.drewN_drewN _ _ _⟩|exact ⟨rfl,_,Eq.trans (World.drewN_drewN _ _ _) (congrArg (World.drewN _) (Nat.add_assoc _ _ _))⟩)));try go_wp2_with (first|(go_at_call 124;(with_reducible refine (gF.calls (bt bE aZ) true _ A7.out).mono ?_);rintro e w' ⟨rfl,⟨nd,rfl⟩⟩;(try first|exact ⟨rfl,_,World.drewN_drewN _ _ _⟩|exact ⟨rfl,_,Eq.trans (World.drewN_drewN _ _ _) (congrArg (World.drewN _) (Nat.add_assoc _ _ _))⟩))))
      go_roundg k1
      case measure=>have:=uX.out;omega
      case rel=>exact ⟨(bE),(wrap64 (aZ + 1)),H',⟨j6⟩,⟨iG⟩,⟨eP⟩,⟨iF⟩⟩
     ·replace c8:=Bool.eq_false_iff.mpr c8
      subst c8
      have H1:(if 0≤cS then (if cS≤aZ then (if aZ≤(bE.size:Int) then (some (bE.extract (cS:Int).toNat (aZ:Int).toNat,decide (aZ > cS),bE,aZ)) else (none)) else (none)) else (none))=some (r1,r2,r3,r4):=by rw [if_neg (show ¬ (false=true) by decide)] at H;exact H
      clear H
      have H:=H1
      clear H1
      by_cases c10: 0≤cS
      ·rw [if_pos c10] at H
       have pV:=eq_true c10
       have zm:decide (0≤cS)=true:=decide_eq_true c10
       clear c10
       by_cases c11:cS≤aZ
       ·rw [if_pos c11] at H
        have zn:=eq_true c11
        have L5:decide (cS≤aZ)=true:=decide_eq_true c11
        clear c11
        by_cases c12:aZ≤(bE.size:Int)
        ·rw [if_pos c12] at H
         have CN:=eq_true c12
         have L6:decide (aZ≤(bE.size:Int))=true:=decide_eq_true c12
         clear c12
         simp only [Option.some.injEq,Prod.mk.injEq] at H
         obtain ⟨rfl,rfl,rfl,rfl⟩:=H
         obtain ⟨qY,L8⟩:=dI.out
         have qN:=dV qY
         have qO:=dM qY
         have qP:=aa qY 0
         have qQ:=aa qY 1
         clear qY L8
         have p6: 0≤(aZ:Int):=of_decide_eq_true cW
         have q6:aZ < (bE.size:Int):=of_decide_eq_true cW
         have hx6:=iw bE aZ
         replace p6:=eq_true p6
         replace q6:=eq_true q6
         go_wp2_with (first|(go_at_call 124;(with_reducible refine (gF.calls (bt bE aZ) false _ A7.out).mono ?_);rintro e w' ⟨rfl,⟨nd,rfl⟩⟩;(try first|exact ⟨rfl,_,World.drewN_drewN _ _ _⟩|exact ⟨rfl,_,Eq.trans (World.drewN_drewN _ _ _) (congrArg (World.drewN _) (Nat.add_assoc _ _ _))⟩)))
         repeat (go_quiet (first|(go_at_call 124;(with_reducible refine (gF.calls (bt bE aZ) false _ A7.out).mono ?_);rintro e w' ⟨rfl,⟨nd,rfl⟩⟩;(try first|exact ⟨rfl,_,World.drewN_drewN _ _ _⟩|exact ⟨rfl,_,Eq.trans (World.drewN_drewN _ _ _) (congrArg (World.drewN _) (Nat.add_assoc _ _ _))⟩)));try go_wp2_with (first|(go_at_call 124;(with_reducible refine (gF.calls (bt bE aZ) false _ A7.out).mono ?_);rintro e w' ⟨rfl,⟨nd,rfl⟩⟩;(try first|exact ⟨rfl,_,World.drewN_drewN _ _ _⟩|exact ⟨rfl,_,Eq.trans (World.drewN_drewN _ _ _) (congrArg (World.drewN _) (Nat.add_assoc _ _ _))⟩))))
         go_ret2
         exact ⟨cR,iG,iF,eP⟩
        ·rw [if_neg c12] at H
         exact absurd H bn
       ·rw [if_neg c11] at H
        exact absurd H bn
      ·rw [if_neg c10] at H
       exact absurd H bn
    ·rw [if_neg c5] at H
     exact absurd H bn
   ·rw [if_neg c4] at H
    have o9:decide (aZ < (bE.size:Int))=false:=decide_eq_false c4
    clear c4
    by_cases c14: 0≤cS
    ·rw [if_pos c14] at H
     have L9:=eq_true c14
     have Ma:decide (0≤cS)=true:=decide_eq_true c14
     clear c14
     by_cases c15:cS≤aZ
     ·rw [if_pos c15] at H
      have FD:=eq_true c15
      have Ru:decide (cS≤aZ)=true:=decide_eq_true c15
      clear c15
      by_cases c16:aZ≤(bE.size:Int)
      ·rw [if_pos c16] at H
       have aam:=eq_true c16
       have aan:decide (aZ≤(bE.size:Int))=true:=decide_eq_true c16
       clear c16
       simp only [Option.some.injEq,Prod.mk.injEq] at H
       obtain ⟨rfl,rfl,rfl,rfl⟩:=H
       obtain ⟨qZ,Mb⟩:=dI.out
       have tW:=dV qZ
       have tX:=dM qZ
       have tY:=aa qZ 0
       have tZ:=aa qZ 1
       clear qZ Mb
       go_wp2
       repeat (go_quiet (fail);try go_wp2)
       go_ret2
       exact ⟨cR,iG,iF,eP⟩
      ·rw [if_neg c16] at H
       exact absurd H bn
     ·rw [if_neg c15] at H
      exact absurd H bn
    ·rw [if_neg c14] at H
     exact absurd H bn
end Go.Proofs.YtokpnfljjjjikaaGreatDoor.pJ
