import Derived.Test.YtokpnfljjjjikaaGreatDoorQCbx6
set_option maxHeartbeats 8000000
set_option maxRecDepth 100000
namespace Go.Proofs.YtokpnfljjjjikaaGreatDoor.n9
open Go.RowKit Go.Proofs.aj.bQ Go.Proofs.aj.gf Go.Proofs.aj.cT
attribute [local go_sem] jt iY kQ kJ iJ iK ju jv
set_option linter.unusedVariables false
set_option linter.unusedSimpArgs false
def cm.l0:Nat→List Int→ByteArray→Int→Option (ByteArray×Bool×ByteArray×Int)
 | 0,_,_,_ =>none
 |k + 1,x6,iw,fV=>if fV < (iw.size:Int) then (if 0≤fV then (if (bt iw fV)=34 then (some (strOfNums x6,true,iw,wrap64 (fV + 1))) else (if (bt iw fV)=92 then ((dg.f iw (wrap64 (fV + 1))).bind fun CL=>(if CL.1 < 32 then (some ((⟨#[]⟩:ByteArray),false,CL.2.1,wrap64 (CL.2.2 + 1))) else (if CL.1 > 126 then (some ((⟨#[]⟩:ByteArray),false,CL.2.1,wrap64 (CL.2.2 + 1))) else (if x6.length < 140737488355328 then (cm.l0 k (x6 ++ [CL.1]) CL.2.1 (wrap64 (CL.2.2 + 1))) else (none))))) else (if (bt iw fV) < 32 then (some ((⟨#[]⟩:ByteArray),false,iw,wrap64 (fV + 1))) else (if (bt iw fV) > 126 then (some ((⟨#[]⟩:ByteArray),false,iw,wrap64 (fV + 1))) else (if x6.length < 140737488355328 then (cm.l0 k (x6 ++ [bt iw fV]) iw (wrap64 (fV + 1))) else (none)))))) else (none)) else (some ((⟨#[]⟩:ByteArray),false,iw,fV))
def cm.f (k:Nat) (fk:ByteArray) (cR:Int):Option (ByteArray×Bool×ByteArray×Int):=(bu.f fk cR 34).bind fun sJ=>(if sJ.1=true then (cm.l0 k ([]:List Int) sJ.2.1 sJ.2.2) else ((aH.f k sJ.2.1 sJ.2.2 46).bind fun kC=>(if 0≤sJ.2.2 then (if sJ.2.2≤kC.2.2 then (if kC.2.2≤(kC.2.1.size:Int) then (some (kC.2.1.extract (sJ.2.2:Int).toNat (kC.2.2:Int).toNat,kC.1,kC.2.1,kC.2.2)) else (none)) else (none)) else (none))))
theorem cm.fU:∀ k,(∀ y0 y1 y2,cN (cm.l0 k y0 y1 y2) (cm.l0 (k + 1) y0 y1 y2))
 | 0=>fun _ _ _ r h=>by simp [cm.l0] at h
 |k + 1=>by
  have oK:=cm.fU k
  ·intro y0 y1 y2
   unfold cm.l0
   repeat' first
   |(with_reducible exact oK _ _ _)
   |(with_reducible exact aH.mono _ _ _ _)
   |(with_reducible exact cN.refl _)
   |(with_reducible exact cN.none _)
   |(with_reducible refine cN.ite ?_ ?_)
   |(with_reducible refine cN.bind ?_ (fun _ =>?_))
   |refine cN.ite ?_ ?_
   |refine cN.bind ?_ (fun _ =>?_)
theorem cm.mono:∀ a0 a1 k,cN (cm.f k a0 a1) (cm.f (k + 1) a0 a1):=by
 intro a0 a1 k
 have oK:=cm.fU k
 unfold cm.f
 repeat' first
  |(with_reducible exact oK _ _ _)
  |(with_reducible exact aH.mono _ _ _ _)
  |(with_reducible exact cN.refl _)
  |(with_reducible exact cN.none _)
  |(with_reducible refine cN.ite ?_ ?_)
  |(with_reducible refine cN.bind ?_ (fun _ =>?_))
  |refine cN.ite ?_ ?_
  |refine cN.bind ?_ (fun _ =>?_)
theorem cm.calls (k:Nat) (g:Nat) (fk:ByteArray) (cR:Int) (r1:ByteArray) (r2:Bool) (r3:ByteArray) (r4:Int) (w0 w:World) (hI:ay w0 w g fk cR) (hB:Below w0.heap.size w0 w) (h:cm.f k fk cR=some (r1,r2,r3,r4)):
 Calls Tryz.prog 123 #[.pointer (some ⟨g,0,none⟩)] w fun e w'=>e= .returned (.tuple #[.string r1,.bool r2])∧ay w0 w' g r3 r4∧Below w0.heap.size w0 w'∧bB w w' g none:=by
 have dH:=ah.mk hI
 have HK:=ah.mk (bB.refl w g none)
 have HL:=ah.mk hB.size
 clear hI
 have VQ:=ah.mk hB.size
 have HB:=ah.mk hB
 clear hB
 have H:((bu.f fk cR 34).bind fun sJ=>(if sJ.1=true then (cm.l0 k ([]:List Int) sJ.2.1 sJ.2.2) else ((aH.f k sJ.2.1 sJ.2.2 46).bind fun kC=>(if 0≤sJ.2.2 then (if sJ.2.2≤kC.2.2 then (if kC.2.2≤(kC.2.1.size:Int) then (some (kC.2.1.extract (sJ.2.2:Int).toNat (kC.2.2:Int).toNat,kC.1,kC.2.1,kC.2.2)) else (none)) else (none)) else (none)))))=some (r1,r2,r3,r4):=h
 clear h
 replace H:=Option.bind_eq_some_iff.mp H
 obtain ⟨⟨t163,t164,t165⟩,oL,H⟩:=H
 replace H:(if t163=true then (cm.l0 k ([]:List Int) t164 t165) else ((aH.f k t164 t165 46).bind fun kC=>(if 0≤t165 then (if t165≤kC.2.2 then (if kC.2.2≤(kC.2.1.size:Int) then (some (kC.2.1.extract (t165:Int).toNat (kC.2.2:Int).toNat,kC.1,kC.2.1,kC.2.2)) else (none)) else (none)) else (none))))=some (r1,r2,r3,r4):=H
 have A2:=ah.mk oL
 clear oL
 by_cases c3:t163=true
 ·subst c3
  have H1:(cm.l0 k ([]:List Int) t164 t165)=some (r1,r2,r3,r4):=by rw [if_pos rfl] at H;exact H
  clear H
  have H:=H1
  clear H1
  have H':=ah.mk H
  clear H
  go_enter Tryz.func123,Tryz.ntmps123
  go_wp2_with (first|(go_at_call 56;(with_reducible refine (bu.calls g fk cR 34 true t164 t165 w0 _ ?bg ?bY A2.out).mono ?_);(case bg=>repeat (first|(with_reducible first|exact dH.out|apply ay.alloc|apply ay.drewN|apply ay.drew|apply ay.fS|apply ay.fP)|exact dH.out));(case bY=>repeat (first|(with_reducible first|exact HB.out|apply aD|apply aM|apply bq|refine bp ?_ (ay.ge dH.out))|exact HB.out));rintro e w4 ⟨rfl,hi,hb,hk⟩;have bI:=ah.mk (bB.trans eK hk (.inl rfl));have bP:=ah.mk (hb);have cw:=ah.mk (hi);clear HK;clear HB;clear dH;have HK:=bI;have HB:=bP;have dH:=cw;clear bI bP cw;(try clear hb);(try clear hb2);(try clear hk);(try clear hi)))
  repeat (go_quiet (first|(go_at_call 56;(with_reducible refine (bu.calls g fk cR 34 true t164 t165 w0 _ ?bg ?bY A2.out).mono ?_);(case bg=>repeat (first|(with_reducible first|exact dH.out|apply ay.alloc|apply ay.drewN|apply ay.drew|apply ay.fS|apply ay.fP)|exact dH.out));(case bY=>repeat (first|(with_reducible first|exact HB.out|apply aD|apply aM|apply bq|refine bp ?_ (ay.ge dH.out))|exact HB.out));rintro e w4 ⟨rfl,hi,hb,hk⟩;have bI:=ah.mk (bB.trans eK hk (.inl rfl));have bP:=ah.mk (hb);have cw:=ah.mk (hi);clear HK;clear HB;clear dH;have HK:=bI;have HB:=bP;have dH:=cw;clear bI bP cw;(try clear hb);(try clear hb2);(try clear hk);(try clear hi)));try go_wp2_with (first|(go_at_call 56;(with_reducible refine (bu.calls g fk cR 34 true t164 t165 w0 _ ?bg ?bY A2.out).mono ?_);(case bg=>repeat (first|(with_reducible first|exact dH.out|apply ay.alloc|apply ay.drewN|apply ay.drew|apply ay.fS|apply ay.fP)|exact dH.out));(case bY=>repeat (first|(with_reducible first|exact HB.out|apply aD|apply aM|apply bq|refine bp ?_ (ay.ge dH.out))|exact HB.out));rintro e w4 ⟨rfl,hi,hb,hk⟩;have bI:=ah.mk (bB.trans eK hk (.inl rfl));have bP:=ah.mk (hb);have cw:=ah.mk (hi);clear HK;clear HB;clear dH;have HK:=bI;have HB:=bP;have dH:=cw;clear bI bP cw;(try clear hb);(try clear hb2);(try clear hk);(try clear hi))))
  go_loopg [6] k (fun kq v6 w'=>∃ (nT:List Int) (bD:ByteArray) (aY:Int),ah (cm.l0 kq nT bD aY=some (r1,r2,r3,r4))∧ah (kq≤k)∧ah (Kd.R (Kd.int .u8) 5 w' w.heap.size (fun _ =>True) v6 nT)∧ah (ay w0 w' g bD aY)∧ah (bB w w' g none)∧ah (Below w0.heap.size w0 w'))
  case atStart=>exact ⟨(([]:List Int)),(t164),(t165),H',⟨Nat.le_refl _⟩,⟨Dp⟩,⟨iC⟩,⟨eK⟩,⟨iB⟩⟩
  case round=>
   clear H'
   try clear c1
   try clear p2
   try clear c3
   obtain ⟨nT,bD,aY,HA,wS,mB,dH,HK,HB⟩:=hrel
   cases gk with
   |zero=>exact absurd HA.out (by simp [cm.l0])
   |succ k1=>
    have H:=HA.out
    clear HA
    simp only [cm.l0] at H
    by_cases c5:aY < (bD.size:Int)
    ·rw [if_pos c5] at H
     have vZ:decide (aY < (bD.size:Int))=true:=decide_eq_true c5
     clear c5
     by_cases c6: 0≤aY
     ·rw [if_pos c6] at H
      have oW:decide (0≤aY)=true:=decide_eq_true c6
      clear c6
      by_cases c8:(bt bD aY)=34
      ·rw [if_pos c8] at H
       have Dy:((bt bD aY) == 34)=true:=beq_iff_eq.mpr c8
       have Qe:((bt bD aY) != 34)=false:=bne_eq_false_iff_eq.mpr c8
       clear c8
       simp only [Option.some.injEq,Prod.mk.injEq] at H
       obtain ⟨rfl,rfl,rfl,rfl⟩:=H
       obtain ⟨qA,Lq⟩:=dH.out
       have rz:=dR qA
       have rA:=dM qA
       have rB:=aa qA 0
       have rC:=aa qA 1
       clear qA Lq
       have p7: 0≤(aY:Int):=of_decide_eq_true cO
       have q7:aY < (bD.size:Int):=of_decide_eq_true cO
       have ES:=ig bD aY
       replace p7:=eq_true p7
       replace q7:=eq_true q7
       have aqo:∀ n_:Nat,Sem.run Tryz.prog (convert 23 9 u6) ((wr.drewN n_).setCell ⟨g,1,none⟩ (.int .i64 (wrap64 (aY + 1))))= .ok (.string (strOfNums nT)) ((wr.drewN n_).setCell ⟨g,1,none⟩ (.int .i64 (wrap64 (aY + 1)))):=fun n_ =>PG (P:=Tryz.prog) Tryz.underlying23 Tryz.underlying5 Tryz.underlying9 (Kd.WC vU)
       go_wp2
       repeat (go_quiet (fail);try go_wp2)
       go_ret2
       exact ⟨cU,iC,iB,eK⟩
      ·rw [if_neg c8] at H
       have Dy:((bt bD aY) == 34)=false:=beq_eq_false_iff_ne.mpr c8
       have Qe:((bt bD aY) != 34)=true:=bne_iff_ne.mpr c8
       by_cases c11:(bt bD aY)=92
       ·rw [if_pos c11] at H
        have AY:((bt bD aY) == 92)=true:=beq_iff_eq.mpr c11
        have Nk:((bt bD aY) != 92)=false:=bne_eq_false_iff_eq.mpr c11
        clear c11
        replace H:=Option.bind_eq_some_iff.mp H
        obtain ⟨⟨t169,t170,t171⟩,GZ,H⟩:=H
        replace H:(if t169 < 32 then (some ((⟨#[]⟩:ByteArray),false,t170,wrap64 (t171 + 1))) else (if t169 > 126 then (some ((⟨#[]⟩:ByteArray),false,t170,wrap64 (t171 + 1))) else (if nT.length < 140737488355328 then (cm.l0 k1 (nT ++ [t169]) t170 (wrap64 (t171 + 1))) else (none))))=some (r1,r2,r3,r4):=H
        have MH:=ah.mk GZ
        clear GZ
        by_cases c13:t169 < 32
        ·rw [if_pos c13] at H
         have G0:decide (t169 < 32)=true:=decide_eq_true c13
         clear c13
         simp only [Option.some.injEq,Prod.mk.injEq] at H
         obtain ⟨rfl,rfl,rfl,rfl⟩:=H
         obtain ⟨NB,afG⟩:=dH.out
         have uS:=dR NB
         have uT:=dM NB
         have uU:=aa NB 0
         have uV:=aa NB 1
         clear NB afG
         have p7: 0≤(aY:Int):=of_decide_eq_true cO
         have q7:aY < (bD.size:Int):=of_decide_eq_true cO
         have ES:=ig bD aY
         replace p7:=eq_true p7
         replace q7:=eq_true q7
         go_wp2_with (first|(go_at_call 115;(with_reducible refine (dg.calls g bD (wrap64 (aY + 1)) t169 t170 t171 w0 _ ?bg ?bY MH.out).mono ?_);(case bg=>repeat (first|(with_reducible first|exact dH.out|apply ay.alloc|apply ay.drewN|apply ay.drew|apply ay.fS|apply ay.fP)|exact dH.out));(case bY=>repeat (first|(with_reducible first|exact HB.out|apply aD|apply aM|apply bq|refine bp ?_ (ay.ge dH.out))|exact HB.out));rintro e Jj ⟨rfl,hi,hb,hk⟩;have bI:=ah.mk (Kd.gp (Kd.ud (ay.apart (show ay w0 _ g bD (wrap64 (aY + 1)) from by repeat (first|(with_reducible first|exact dH.out|apply ay.alloc|apply ay.drewN|apply ay.drew|apply ay.fS|apply ay.fP)|exact dH.out)) vU bL) hk (fun _ h=>h.2)) (fun _ h=>h.1));have bP:=ah.mk (bB.trans eK hk (.inl rfl));have cw:=ah.mk (hb);have cW:=ah.mk (hi);clear mB;clear HK;clear HB;clear dH;have mB:=bI;have HK:=bP;have HB:=cw;have dH:=cW;clear bI bP cw cW;(try clear hb);(try clear hb2);(try clear hk);(try clear hi);obtain ⟨sK,NC⟩:=dH.out;have oa:=dR sK;have oc:=dM sK;have og:=aa sK 0;have om:=aa sK 1;clear sK NC))
         repeat (go_quiet (first|(go_at_call 115;(with_reducible refine (dg.calls g bD (wrap64 (aY + 1)) t169 t170 t171 w0 _ ?bg ?bY MH.out).mono ?_);(case bg=>repeat (first|(with_reducible first|exact dH.out|apply ay.alloc|apply ay.drewN|apply ay.drew|apply ay.fS|apply ay.fP)|exact dH.out));(case bY=>repeat (first|(with_reducible first|exact HB.out|apply aD|apply aM|apply bq|refine bp ?_ (ay.ge dH.out))|exact HB.out));rintro e Jj ⟨rfl,hi,hb,hk⟩;have bI:=ah.mk (Kd.gp (Kd.ud (ay.apart (show ay w0 _ g bD (wrap64 (aY + 1)) from by repeat (first|(with_reducible first|exact dH.out|apply ay.alloc|apply ay.drewN|apply ay.drew|apply ay.fS|apply ay.fP)|exact dH.out)) vU bL) hk (fun _ h=>h.2)) (fun _ h=>h.1));have bP:=ah.mk (bB.trans eK hk (.inl rfl));have cw:=ah.mk (hb);have cW:=ah.mk (hi);clear mB;clear HK;clear HB;clear dH;have mB:=bI;have HK:=bP;have HB:=cw;have dH:=cW;clear bI bP cw cW;(try clear hb);(try clear hb2);(try clear hk);(try clear hi);obtain ⟨sK,NC⟩:=dH.out;have oa:=dR sK;have oc:=dM sK;have og:=aa sK 0;have om:=aa sK 1;clear sK NC));try go_wp2_with (first|(go_at_call 115;(with_reducible refine (dg.calls g bD (wrap64 (aY + 1)) t169 t170 t171 w0 _ ?bg ?bY MH.out).mono ?_);(case bg=>repeat (first|(with_reducible first|exact dH.out|apply ay.alloc|apply ay.drewN|apply ay.drew|apply ay.fS|apply ay.fP)|exact dH.out));(case bY=>repeat (first|(with_reducible first|exact HB.out|apply aD|apply aM|apply bq|refine bp ?_ (ay.ge dH.out))|exact HB.out));rintro e Jj ⟨rfl,hi,hb,hk⟩;have bI:=ah.mk (Kd.gp (Kd.ud (ay.apart (show ay w0 _ g bD (wrap64 (aY + 1)) from by repeat (first|(with_reducible first|exact dH.out|apply ay.alloc|apply ay.drewN|apply ay.drew|apply ay.fS|apply ay.fP)|exact dH.out)) vU bL) hk (fun _ h=>h.2)) (fun _ h=>h.1));have bP:=ah.mk (bB.trans eK hk (.inl rfl));have cw:=ah.mk (hb);have cW:=ah.mk (hi);clear mB;clear HK;clear HB;clear dH;have mB:=bI;have HK:=bP;have HB:=cw;have dH:=cW;clear bI bP cw cW;(try clear hb);(try clear hb2);(try clear hk);(try clear hi);obtain ⟨sK,NC⟩:=dH.out;have oa:=dR sK;have oc:=dM sK;have og:=aa sK 0;have om:=aa sK 1;clear sK NC)))
         go_ret2
         exact ⟨cU,iC,iB,eK⟩
        ·rw [if_neg c13] at H
         have G0:decide (t169 < 32)=false:=decide_eq_false c13
         clear c13
         by_cases c17:t169 > 126
         ·rw [if_pos c17] at H
          have S6:decide (126 < t169)=true:=decide_eq_true c17
          clear c17
          simp only [Option.some.injEq,Prod.mk.injEq] at H
          obtain ⟨rfl,rfl,rfl,rfl⟩:=H
          obtain ⟨ND,afH⟩:=dH.out
          have zV:=dR ND
          have zW:=dM ND
          have zX:=aa ND 0
          have zY:=aa ND 1
          clear ND afH
          have p7: 0≤(aY:Int):=of_decide_eq_true cO
          have q7:aY < (bD.size:Int):=of_decide_eq_true cO
          have ES:=ig bD aY
          replace p7:=eq_true p7
          replace q7:=eq_true q7
          go_wp2_with (first|(go_at_call 115;(with_reducible refine (dg.calls g bD (wrap64 (aY + 1)) t169 t170 t171 w0 _ ?bg ?bY MH.out).mono ?_);(case bg=>repeat (first|(with_reducible first|exact dH.out|apply ay.alloc|apply ay.drewN|apply ay.drew|apply ay.fS|apply ay.fP)|exact dH.out));(case bY=>repeat (first|(with_reducible first|exact HB.out|apply aD|apply aM|apply bq|refine bp ?_ (ay.ge dH.out))|exact HB.out));rintro e Pg ⟨rfl,hi,hb,hk⟩;have bI:=ah.mk (Kd.gp (Kd.ud (ay.apart (show ay w0 _ g bD (wrap64 (aY + 1)) from by repeat (first|(with_reducible first|exact dH.out|apply ay.alloc|apply ay.drewN|apply ay.drew|apply ay.fS|apply ay.fP)|exact dH.out)) vU bL) hk (fun _ h=>h.2)) (fun _ h=>h.1));have bP:=ah.mk (bB.trans eK hk (.inl rfl));have cw:=ah.mk (hb);have cW:=ah.mk (hi);clear mB;clear HK;clear HB;clear dH;have mB:=bI;have HK:=bP;have HB:=cw;have dH:=cW;clear bI bP cw cW;(try clear hb);(try clear hb2);(try clear hk);(try clear hi);obtain ⟨sL,NF⟩:=dH.out;have vJ:=dR sL;have vK:=dM sL;have vL:=aa sL 0;have vM:=aa sL 1;clear sL NF))
          repeat (go_quiet (first|(go_at_call 115;(with_reducible refine (dg.calls g bD (wrap64 (aY + 1)) t169 t170 t171 w0 _ ?bg ?bY MH.out).mono ?_);(case bg=>repeat (first|(with_reducible first|exact dH.out|apply ay.alloc|apply ay.drewN|apply ay.drew|apply ay.fS|apply ay.fP)|exact dH.out));(case bY=>repeat (first|(with_reducible first|exact HB.out|apply aD|apply aM|apply bq|refine bp ?_ (ay.ge dH.out))|exact HB.out));rintro e Pg ⟨rfl,hi,hb,hk⟩;have bI:=ah.mk (Kd.gp (Kd.ud (ay.apart (show ay w0 _ g bD (wrap64 (aY + 1)) from by repeat (first|(with_reducible first|exact dH.out|apply ay.alloc|apply ay.drewN|apply ay.drew|apply ay.fS|apply ay.fP)|exact dH.out)) vU bL) hk (fun _ h=>h.2)) (fun _ h=>h.1));have bP:=ah.mk (bB.trans eK hk (.inl rfl));have cw:=ah.mk (hb);have cW:=ah.mk (hi);clear mB;clear HK;clear HB;clear dH;have mB:=bI;have HK:=bP;have HB:=cw;have dH:=cW;clear bI bP cw cW;(try clear hb);(try clear hb2);(try clear hk);(try clear hi);obtain ⟨sL,NF⟩:=dH.out;have vJ:=dR sL;have vK:=dM sL;have vL:=aa sL 0;have vM:=aa sL 1;clear sL NF));try go_wp2_with (first|(go_at_call 115;(with_reducible refine (dg.calls g bD (wrap64 (aY + 1)) t169 t170 t171 w0 _ ?bg ?bY MH.out).mono ?_);(case bg=>repeat (first|(with_reducible first|exact dH.out|apply ay.alloc|apply ay.drewN|apply ay.drew|apply ay.fS|apply ay.fP)|exact dH.out));(case bY=>repeat (first|(with_reducible first|exact HB.out|apply aD|apply aM|apply bq|refine bp ?_ (ay.ge dH.out))|exact HB.out));rintro e Pg ⟨rfl,hi,hb,hk⟩;have bI:=ah.mk (Kd.gp (Kd.ud (ay.apart (show ay w0 _ g bD (wrap64 (aY + 1)) from by repeat (first|(with_reducible first|exact dH.out|apply ay.alloc|apply ay.drewN|apply ay.drew|apply ay.fS|apply ay.fP)|exact dH.out)) vU bL) hk (fun _ h=>h.2)) (fun _ h=>h.1));have bP:=ah.mk (bB.trans eK hk (.inl rfl));have cw:=ah.mk (hb);have cW:=ah.mk (hi);clear mB;clear HK;clear HB;clear dH;have mB:=bI;have HK:=bP;have HB:=cw;have dH:=cW;clear bI bP cw cW;(try clear hb);(try clear hb2);(try clear hk);(try clear hi);obtain ⟨sL,NF⟩:=dH.out;have vJ:=dR sL;have vK:=dM sL;have vL:=aa sL 0;have vM:=aa sL 1;clear sL NF)))
          go_ret2
          exact ⟨cU,iC,iB,eK⟩
         ·rw [if_neg c17] at H
          have S6:decide (126 < t169)=false:=decide_eq_false c17
          clear c17
          by_cases c21:nT.length < 140737488355328
          ·rw [if_pos c21] at H
           have Xe:=ah.mk c21
           clear c21
           obtain ⟨afI,NG⟩:∃ y_:List Int,y_=(nT ++ [t169]):=⟨_,rfl⟩
           replace H:(cm.l0 k1 afI t170 (wrap64 (t171 + 1)))=some (r1,r2,r3,r4):=by first|(rw [NG];with_reducible exact H)|(have Qf:=(Option.bind_some _ _).symm.trans H;rw [NG];with_reducible exact Qf)|(have Qf:=(Option.bind_some _ _).symm.trans H;with_reducible exact Qf)|with_reducible exact H|(rw [NG];exact H)|exact H
           have Xf:=ah.mk NG
           clear NG
           have H':=ah.mk H
           clear H
           obtain ⟨NH,afJ⟩:=dH.out
           have zZ:=dR NH
           have z6:=dM NH
           have z7:=aa NH 0
           have z8:=aa NH 1
           clear NH afJ
           have p7: 0≤(aY:Int):=of_decide_eq_true cO
           have q7:aY < (bD.size:Int):=of_decide_eq_true cO
           have ES:=ig bD aY
           replace p7:=eq_true p7
           replace q7:=eq_true q7
           go_wp2_with (first|(go_at_call 115;(with_reducible refine (dg.calls g bD (wrap64 (aY + 1)) t169 t170 t171 w0 _ ?bg ?bY MH.out).mono ?_);(case bg=>repeat (first|(with_reducible first|exact dH.out|apply ay.alloc|apply ay.drewN|apply ay.drew|apply ay.fS|apply ay.fP)|exact dH.out));(case bY=>repeat (first|(with_reducible first|exact HB.out|apply aD|apply aM|apply bq|refine bp ?_ (ay.ge dH.out))|exact HB.out));rintro e NI ⟨rfl,hi,hb,hk⟩;have bI:=ah.mk (Kd.gp (Kd.ud (ay.apart (show ay w0 _ g bD (wrap64 (aY + 1)) from by repeat (first|(with_reducible first|exact dH.out|apply ay.alloc|apply ay.drewN|apply ay.drew|apply ay.fS|apply ay.fP)|exact dH.out)) vU bL) hk (fun _ h=>h.2)) (fun _ h=>h.1));have bP:=ah.mk (bB.trans eK hk (.inl rfl));have cw:=ah.mk (hb);have cW:=ah.mk (hi);clear mB;clear HK;clear HB;clear dH;have mB:=bI;have HK:=bP;have HB:=cw;have dH:=cW;clear bI bP cw cW;(try clear hb);(try clear hb2);(try clear hk);(try clear hi);obtain ⟨sM,NJ⟩:=dH.out;have tB:=dR sM;have tC:=dM sM;have tD:=aa sM 0;have tE:=aa sM 1;clear sM NJ)|((with_reducible refine lH (b:= .append) (xs:=#[.tmp 77,.tmp 79]) rfl ?_);at_builtin;refine Kd.su (Kd.int .u8) w.heap.size rfl (.tmp 77) (.tmp 79) 23 5 (.int .u8 0) 1 rfl Tryz.underlying23 Jf rfl bL aq u6 nT t169 [.int .u8 t169] (fun _ =>True) (fun _ =>False) rfl ux ?aP (fun _ hk=>hk.elim) ?aF ?aO (Below.refl _ _) ?aS ?aL ?_;(case aP=>exact rfl);(case aF=>exact (fun _ _ =>trivial));(case aO=>exact JW);(case aS=>exact (pR (w:=w) (g:=g) (row:=none) eK));(case aL=>have:=Xe.out;omega);intro v173 VR ho hb hg hat;rw [← Xf.out] at ho;have bI:=ah.mk (ay.grown iC hg (ay.own_ne dH.out mB.out bL));have bP:=ah.mk (bS iB HL.out hb);have cw:=ah.mk (bB.trans eK (bB.qg hg g) (Kd.wU mB.out));have cW:=ah.mk (ho);clear dH;clear HB;clear HK;clear mB;have dH:=bI;have HB:=bP;have HK:=cw;have Xg:=cW;clear bI bP cw cW;clear ho hb hg hat))
           repeat (go_quiet (first|(go_at_call 115;(with_reducible refine (dg.calls g bD (wrap64 (aY + 1)) t169 t170 t171 w0 _ ?bg ?bY MH.out).mono ?_);(case bg=>repeat (first|(with_reducible first|exact dH.out|apply ay.alloc|apply ay.drewN|apply ay.drew|apply ay.fS|apply ay.fP)|exact dH.out));(case bY=>repeat (first|(with_reducible first|exact HB.out|apply aD|apply aM|apply bq|refine bp ?_ (ay.ge dH.out))|exact HB.out));rintro e NI ⟨rfl,hi,hb,hk⟩;have bI:=ah.mk (Kd.gp (Kd.ud (ay.apart (show ay w0 _ g bD (wrap64 (aY + 1)) from by repeat (first|(with_reducible first|exact dH.out|apply ay.alloc|apply ay.drewN|apply ay.drew|apply ay.fS|apply ay.fP)|exact dH.out)) vU bL) hk (fun _ h=>h.2)) (fun _ h=>h.1));have bP:=ah.mk (bB.trans eK hk (.inl rfl));have cw:=ah.mk (hb);have cW:=ah.mk (hi);clear mB;clear HK;clear HB;clear dH;have mB:=bI;have HK:=bP;have HB:=cw;have dH:=cW;clear bI bP cw cW;(try clear hb);(try clear hb2);(try clear hk);(try clear hi);obtain ⟨sM,NJ⟩:=dH.out;have tB:=dR sM;have tC:=dM sM;have tD:=aa sM 0;have tE:=aa sM 1;clear sM NJ)|((with_reducible refine lH (b:= .append) (xs:=#[.tmp 77,.tmp 79]) rfl ?_);at_builtin;refine Kd.su (Kd.int .u8) w.heap.size rfl (.tmp 77) (.tmp 79) 23 5 (.int .u8 0) 1 rfl Tryz.underlying23 Jf rfl bL aq u6 nT t169 [.int .u8 t169] (fun _ =>True) (fun _ =>False) rfl ux ?aP (fun _ hk=>hk.elim) ?aF ?aO (Below.refl _ _) ?aS ?aL ?_;(case aP=>exact rfl);(case aF=>exact (fun _ _ =>trivial));(case aO=>exact JW);(case aS=>exact (pR (w:=w) (g:=g) (row:=none) eK));(case aL=>have:=Xe.out;omega);intro v173 VR ho hb hg hat;rw [← Xf.out] at ho;have bI:=ah.mk (ay.grown iC hg (ay.own_ne dH.out mB.out bL));have bP:=ah.mk (bS iB HL.out hb);have cw:=ah.mk (bB.trans eK (bB.qg hg g) (Kd.wU mB.out));have cW:=ah.mk (ho);clear dH;clear HB;clear HK;clear mB;have dH:=bI;have HB:=bP;have HK:=cw;have Xg:=cW;clear bI bP cw cW;clear ho hb hg hat));try go_wp2_with (first|(go_at_call 115;(with_reducible refine (dg.calls g bD (wrap64 (aY + 1)) t169 t170 t171 w0 _ ?bg ?bY MH.out).mono ?_);(case bg=>repeat (first|(with_reducible first|exact dH.out|apply ay.alloc|apply ay.drewN|apply ay.drew|apply ay.fS|apply ay.fP)|exact dH.out));(case bY=>repeat (first|(with_reducible first|exact HB.out|apply aD|apply aM|apply bq|refine bp ?_ (ay.ge dH.out))|exact HB.out));rintro e NI ⟨rfl,hi,hb,hk⟩;have bI:=ah.mk (Kd.gp (Kd.ud (ay.apart (show ay w0 _ g bD (wrap64 (aY + 1)) from by repeat (first|(with_reducible first|exact dH.out|apply ay.alloc|apply ay.drewN|apply ay.drew|apply ay.fS|apply ay.fP)|exact dH.out)) vU bL) hk (fun _ h=>h.2)) (fun _ h=>h.1));have bP:=ah.mk (bB.trans eK hk (.inl rfl));have cw:=ah.mk (hb);have cW:=ah.mk (hi);clear mB;clear HK;clear HB;clear dH;have mB:=bI;have HK:=bP;have HB:=cw;have dH:=cW;clear bI bP cw cW;(try clear hb);(try clear hb2);(try clear hk);(try clear hi);obtain ⟨sM,NJ⟩:=dH.out;have tB:=dR sM;have tC:=dM sM;have tD:=aa sM 0;have tE:=aa sM 1;clear sM NJ)|((with_reducible refine lH (b:= .append) (xs:=#[.tmp 77,.tmp 79]) rfl ?_);at_builtin;refine Kd.su (Kd.int .u8) w.heap.size rfl (.tmp 77) (.tmp 79) 23 5 (.int .u8 0) 1 rfl Tryz.underlying23 Jf rfl bL aq u6 nT t169 [.int .u8 t169] (fun _ =>True) (fun _ =>False) rfl ux ?aP (fun _ hk=>hk.elim) ?aF ?aO (Below.refl _ _) ?aS ?aL ?_;(case aP=>exact rfl);(case aF=>exact (fun _ _ =>trivial));(case aO=>exact JW);(case aS=>exact (pR (w:=w) (g:=g) (row:=none) eK));(case aL=>have:=Xe.out;omega);intro v173 VR ho hb hg hat;rw [← Xf.out] at ho;have bI:=ah.mk (ay.grown iC hg (ay.own_ne dH.out mB.out bL));have bP:=ah.mk (bS iB HL.out hb);have cw:=ah.mk (bB.trans eK (bB.qg hg g) (Kd.wU mB.out));have cW:=ah.mk (ho);clear dH;clear HB;clear HK;clear mB;have dH:=bI;have HB:=bP;have HK:=cw;have Xg:=cW;clear bI bP cw cW;clear ho hb hg hat)))
           go_roundg k1
           case measure=>have:=wS.out;omega
           case rel=>exact ⟨(afI),(t170),(wrap64 (t171 + 1)),H',⟨ko⟩,⟨by (with_reducible repeat (first|apply Kd.fX|apply Kd.fY|apply Kd.gW));exact Xg.out⟩,⟨iC⟩,⟨eK⟩,⟨iB⟩⟩
          ·rw [if_neg c21] at H
           exact absurd H bf
       ·rw [if_neg c11] at H
        have AY:((bt bD aY) == 92)=false:=beq_eq_false_iff_ne.mpr c11
        have Nk:((bt bD aY) != 92)=true:=bne_iff_ne.mpr c11
        by_cases VO:(bt bD aY) < 32
        ·rw [if_pos VO] at H
         have afK:decide ((bt bD aY) < 32)=true:=decide_eq_true VO
         clear VO
         simp only [Option.some.injEq,Prod.mk.injEq] at H
         obtain ⟨rfl,rfl,rfl,rfl⟩:=H
         obtain ⟨NK,afL⟩:=dH.out
         have Sa:=dR NK
         have Sb:=dM NK
         have Sc:=aa NK 0
         have Sd:=aa NK 1
         clear NK afL
         have p7: 0≤(aY:Int):=of_decide_eq_true cO
         have q7:aY < (bD.size:Int):=of_decide_eq_true cO
         have ES:=ig bD aY
         replace p7:=eq_true p7
         replace q7:=eq_true q7
         go_wp2
         repeat (go_quiet (fail);try go_wp2)
         go_ret2
         exact ⟨cU,iC,iB,eK⟩
        ·rw [if_neg VO] at H
         have afK:decide ((bt bD aY) < 32)=false:=decide_eq_false VO
         clear VO
         by_cases c28:(bt bD aY) > 126
         ·rw [if_pos c28] at H
          have Ej:decide (126 < (bt bD aY))=true:=decide_eq_true c28
          clear c28
          simp only [Option.some.injEq,Prod.mk.injEq] at H
          obtain ⟨rfl,rfl,rfl,rfl⟩:=H
          obtain ⟨NL,afM⟩:=dH.out
          have Fq:=dR NL
          have Fu:=dM NL
          have Fv:=aa NL 0
          have Fw:=aa NL 1
          clear NL afM
          have p7: 0≤(aY:Int):=of_decide_eq_true cO
          have q7:aY < (bD.size:Int):=of_decide_eq_true cO
          have ES:=ig bD aY
          replace p7:=eq_true p7
          replace q7:=eq_true q7
          go_wp2
          repeat (go_quiet (fail);try go_wp2)
          go_ret2
          exact ⟨cU,iC,iB,eK⟩
         ·rw [if_neg c28] at H
          have Ej:decide (126 < (bt bD aY))=false:=decide_eq_false c28
          clear c28
          by_cases IA:nT.length < 140737488355328
          ·rw [if_pos IA] at H
           have Xh:=ah.mk IA
           clear IA
           obtain ⟨afN,NM⟩:∃ y_:List Int,y_=(nT ++ [bt bD aY]):=⟨_,rfl⟩
           replace H:(cm.l0 k1 afN bD (wrap64 (aY + 1)))=some (r1,r2,r3,r4):=by first|(rw [NM];with_reducible exact H)|(have Qf:=(Option.bind_some _ _).symm.trans H;rw [NM];with_reducible exact Qf)|(have Qf:=(Option.bind_some _ _).symm.trans H;with_reducible exact Qf)|with_reducible exact H|(rw [NM];exact H)|exact H
           have Xi:=ah.mk NM
           clear NM
           have H':=ah.mk H
           clear H
           obtain ⟨NN,afO⟩:=dH.out
           have vN:=dR NN
           have vO:=dM NN
           have vP:=aa NN 0
           have vQ:=aa NN 1
           clear NN afO
           have p7: 0≤(aY:Int):=of_decide_eq_true cO
           have q7:aY < (bD.size:Int):=of_decide_eq_true cO
           have ES:=ig bD aY
           replace p7:=eq_true p7
           replace q7:=eq_true q7
           go_wp2_with (first|((with_reducible refine lH (b:= .append) (xs:=#[.tmp 77,.tmp 79]) rfl ?_);at_builtin;refine Kd.su (Kd.int .u8) w.heap.size rfl (.tmp 77) (.tmp 79) 23 5 (.int .u8 0) 1 rfl Tryz.underlying23 Jf rfl bL aq u6 nT (bt bD aY) [.int .u8 (bt bD aY)] (fun _ =>True) (fun _ =>False) rfl ux ?aP (fun _ hk=>hk.elim) ?aF ?aO (Below.refl _ _) ?aS ?aL ?_;(case aP=>exact rfl);(case aF=>exact (fun _ _ =>trivial));(case aO=>exact JV);(case aS=>exact (pR (w:=w) (g:=g) (row:=none) eK));(case aL=>have:=Xh.out;omega);intro afP Ek ho hb hg hat;rw [← Xi.out] at ho;have bI:=ah.mk (ay.grown iC hg (ay.own_ne dH.out mB.out bL));have bP:=ah.mk (bS iB HL.out hb);have cw:=ah.mk (bB.trans eK (bB.qg hg g) (Kd.wU mB.out));have cW:=ah.mk (ho);clear dH;clear HB;clear HK;clear mB;have dH:=bI;have HB:=bP;have HK:=cw;have Xj:=cW;clear bI bP cw cW;clear ho hb hg hat))
           repeat (go_quiet (first|((with_reducible refine lH (b:= .append) (xs:=#[.tmp 77,.tmp 79]) rfl ?_);at_builtin;refine Kd.su (Kd.int .u8) w.heap.size rfl (.tmp 77) (.tmp 79) 23 5 (.int .u8 0) 1 rfl Tryz.underlying23 Jf rfl bL aq u6 nT (bt bD aY) [.int .u8 (bt bD aY)] (fun _ =>True) (fun _ =>False) rfl ux ?aP (fun _ hk=>hk.elim) ?aF ?aO (Below.refl _ _) ?aS ?aL ?_;(case aP=>exact rfl);(case aF=>exact (fun _ _ =>trivial));(case aO=>exact JV);(case aS=>exact (pR (w:=w) (g:=g) (row:=none) eK));(case aL=>have:=Xh.out;omega);intro afP Ek ho hb hg hat;rw [← Xi.out] at ho;have bI:=ah.mk (ay.grown iC hg (ay.own_ne dH.out mB.out bL));have bP:=ah.mk (bS iB HL.out hb);have cw:=ah.mk (bB.trans eK (bB.qg hg g) (Kd.wU mB.out));have cW:=ah.mk (ho);clear dH;clear HB;clear HK;clear mB;have dH:=bI;have HB:=bP;have HK:=cw;have Xj:=cW;clear bI bP cw cW;clear ho hb hg hat));try go_wp2_with (first|((with_reducible refine lH (b:= .append) (xs:=#[.tmp 77,.tmp 79]) rfl ?_);at_builtin;refine Kd.su (Kd.int .u8) w.heap.size rfl (.tmp 77) (.tmp 79) 23 5 (.int .u8 0) 1 rfl Tryz.underlying23 Jf rfl bL aq u6 nT (bt bD aY) [.int .u8 (bt bD aY)] (fun _ =>True) (fun _ =>False) rfl ux ?aP (fun _ hk=>hk.elim) ?aF ?aO (Below.refl _ _) ?aS ?aL ?_;(case aP=>exact rfl);(case aF=>exact (fun _ _ =>trivial));(case aO=>exact JV);(case aS=>exact (pR (w:=w) (g:=g) (row:=none) eK));(case aL=>have:=Xh.out;omega);intro afP Ek ho hb hg hat;rw [← Xi.out] at ho;have bI:=ah.mk (ay.grown iC hg (ay.own_ne dH.out mB.out bL));have bP:=ah.mk (bS iB HL.out hb);have cw:=ah.mk (bB.trans eK (bB.qg hg g) (Kd.wU mB.out));have cW:=ah.mk (ho);clear dH;clear HB;clear HK;clear mB;have dH:=bI;have HB:=bP;have HK:=cw;have Xj:=cW;clear bI bP cw cW;clear ho hb hg hat)))
           go_roundg k1
           case measure=>have:=wS.out;omega
           case rel=>exact ⟨(afN),(bD),(wrap64 (aY + 1)),H',⟨ko⟩,⟨by (with_reducible repeat (first|apply Kd.fX|apply Kd.fY|apply Kd.gW));exact Xj.out⟩,⟨iC⟩,⟨eK⟩,⟨iB⟩⟩
          ·rw [if_neg IA] at H
           exact absurd H bf
     ·rw [if_neg c6] at H
      exact absurd H bf
    ·rw [if_neg c5] at H
     have vZ:decide (aY < (bD.size:Int))=false:=decide_eq_false c5
     clear c5
     simp only [Option.some.injEq,Prod.mk.injEq] at H
     obtain ⟨rfl,rfl,rfl,rfl⟩:=H
     obtain ⟨NP,afQ⟩:=dH.out
     have S7:=dR NP
     have S8:=dM NP
     have S9:=aa NP 0
     have Ta:=aa NP 1
     clear NP afQ
     go_wp2
     repeat (go_quiet (fail);try go_wp2)
     go_ret2
     exact ⟨cU,iC,iB,eK⟩
 ·replace c3:=Bool.eq_false_iff.mpr c3
  subst c3
  have H1:((aH.f k t164 t165 46).bind fun kC=>(if 0≤t165 then (if t165≤kC.2.2 then (if kC.2.2≤(kC.2.1.size:Int) then (some (kC.2.1.extract (t165:Int).toNat (kC.2.2:Int).toNat,kC.1,kC.2.1,kC.2.2)) else (none)) else (none)) else (none)))=some (r1,r2,r3,r4):=by rw [if_neg (show ¬ (false=true) by decide)] at H;exact H
  clear H
  have H:=H1
  clear H1
  replace H:=Option.bind_eq_some_iff.mp H
  obtain ⟨⟨t166,t167,t168⟩,Xk,H⟩:=H
  replace H:(if 0≤t165 then (if t165≤t168 then (if t168≤(t167.size:Int) then (some (t167.extract (t165:Int).toNat (t168:Int).toNat,t166,t167,t168)) else (none)) else (none)) else (none))=some (r1,r2,r3,r4):=H
  have A34:=ah.mk Xk
  clear Xk
  by_cases VS: 0≤t165
  ·rw [if_pos VS] at H
   have ab1:=eq_true VS
   have aqp:decide (0≤t165)=true:=decide_eq_true VS
   clear VS
   by_cases Y8:t165≤t168
   ·rw [if_pos Y8] at H
    have afS:=eq_true Y8
    have aqq:decide (t165≤t168)=true:=decide_eq_true Y8
    clear Y8
    by_cases c37:t168≤(t167.size:Int)
    ·rw [if_pos c37] at H
     have ab2:=eq_true c37
     have afT:decide (t168≤(t167.size:Int))=true:=decide_eq_true c37
     clear c37
     simp only [Option.some.injEq,Prod.mk.injEq] at H
     obtain ⟨rfl,rfl,rfl,rfl⟩:=H
     go_enter Tryz.func123,Tryz.ntmps123
     go_wp2_with (first|(go_at_call 56;(with_reducible refine (bu.calls g fk cR 34 false t164 t165 w0 _ ?bg ?bY A2.out).mono ?_);(case bg=>repeat (first|(with_reducible first|exact dH.out|apply ay.alloc|apply ay.drewN|apply ay.drew|apply ay.fS|apply ay.fP)|exact dH.out));(case bY=>repeat (first|(with_reducible first|exact HB.out|apply aD|apply aM|apply bq|refine bp ?_ (ay.ge dH.out))|exact HB.out));rintro e VT ⟨rfl,hi,hb,hk⟩;have bI:=ah.mk (bB.trans eK hk (.inl rfl));have bP:=ah.mk (hb);have cw:=ah.mk (hi);clear HK;clear HB;clear dH;have HK:=bI;have HB:=bP;have dH:=cw;clear bI bP cw;(try clear hb);(try clear hb2);(try clear hk);(try clear hi);obtain ⟨sN,NQ⟩:=dH.out;have FD:=dR sN;have FE:=dM sN;have FH:=aa sN 0;have FI:=aa sN 1;clear sN NQ)|(go_at_call 67;(with_reducible refine (aH.calls k g t164 t165 46 t166 t167 t168 w0 _ ?bg ?bY A34.out).mono ?_);(case bg=>repeat (first|(with_reducible first|exact dH.out|apply ay.alloc|apply ay.drewN|apply ay.drew|apply ay.fS|apply ay.fP)|exact dH.out));(case bY=>repeat (first|(with_reducible first|exact HB.out|apply aD|apply aM|apply bq|refine bp ?_ (ay.ge dH.out))|exact HB.out));rintro e w40 ⟨rfl,hi,hb,hk⟩;have bI:=ah.mk (bB.trans eK hk (.inl rfl));have bP:=ah.mk (hb);have cw:=ah.mk (hi);clear HK;clear HB;clear dH;have HK:=bI;have HB:=bP;have dH:=cw;clear bI bP cw;(try clear hb);(try clear hb2);(try clear hk);(try clear hi);obtain ⟨sO,NR⟩:=dH.out;have Tb:=dR sO;have Tc:=dM sO;have Td:=aa sO 0;have Te:=aa sO 1;clear sO NR))
     repeat (go_quiet (first|(go_at_call 56;(with_reducible refine (bu.calls g fk cR 34 false t164 t165 w0 _ ?bg ?bY A2.out).mono ?_);(case bg=>repeat (first|(with_reducible first|exact dH.out|apply ay.alloc|apply ay.drewN|apply ay.drew|apply ay.fS|apply ay.fP)|exact dH.out));(case bY=>repeat (first|(with_reducible first|exact HB.out|apply aD|apply aM|apply bq|refine bp ?_ (ay.ge dH.out))|exact HB.out));rintro e VT ⟨rfl,hi,hb,hk⟩;have bI:=ah.mk (bB.trans eK hk (.inl rfl));have bP:=ah.mk (hb);have cw:=ah.mk (hi);clear HK;clear HB;clear dH;have HK:=bI;have HB:=bP;have dH:=cw;clear bI bP cw;(try clear hb);(try clear hb2);(try clear hk);(try clear hi);obtain ⟨sN,NQ⟩:=dH.out;have FD:=dR sN;have FE:=dM sN;have FH:=aa sN 0;have FI:=aa sN 1;clear sN NQ)|(go_at_call 67;(with_reducible refine (aH.calls k g t164 t165 46 t166 t167 t168 w0 _ ?bg ?bY A34.out).mono ?_);(case bg=>repeat (first|(with_reducible first|exact dH.out|apply ay.alloc|apply ay.drewN|apply ay.drew|apply ay.fS|apply ay.fP)|exact dH.out));(case bY=>repeat (first|(with_reducible first|exact HB.out|apply aD|apply aM|apply bq|refine bp ?_ (ay.ge dH.out))|exact HB.out));rintro e w40 ⟨rfl,hi,hb,hk⟩;have bI:=ah.mk (bB.trans eK hk (.inl rfl));have bP:=ah.mk (hb);have cw:=ah.mk (hi);clear HK;clear HB;clear dH;have HK:=bI;have HB:=bP;have dH:=cw;clear bI bP cw;(try clear hb);(try clear hb2);(try clear hk);(try clear hi);obtain ⟨sO,NR⟩:=dH.out;have Tb:=dR sO;have Tc:=dM sO;have Td:=aa sO 0;have Te:=aa sO 1;clear sO NR));try go_wp2_with (first|(go_at_call 56;(with_reducible refine (bu.calls g fk cR 34 false t164 t165 w0 _ ?bg ?bY A2.out).mono ?_);(case bg=>repeat (first|(with_reducible first|exact dH.out|apply ay.alloc|apply ay.drewN|apply ay.drew|apply ay.fS|apply ay.fP)|exact dH.out));(case bY=>repeat (first|(with_reducible first|exact HB.out|apply aD|apply aM|apply bq|refine bp ?_ (ay.ge dH.out))|exact HB.out));rintro e VT ⟨rfl,hi,hb,hk⟩;have bI:=ah.mk (bB.trans eK hk (.inl rfl));have bP:=ah.mk (hb);have cw:=ah.mk (hi);clear HK;clear HB;clear dH;have HK:=bI;have HB:=bP;have dH:=cw;clear bI bP cw;(try clear hb);(try clear hb2);(try clear hk);(try clear hi);obtain ⟨sN,NQ⟩:=dH.out;have FD:=dR sN;have FE:=dM sN;have FH:=aa sN 0;have FI:=aa sN 1;clear sN NQ)|(go_at_call 67;(with_reducible refine (aH.calls k g t164 t165 46 t166 t167 t168 w0 _ ?bg ?bY A34.out).mono ?_);(case bg=>repeat (first|(with_reducible first|exact dH.out|apply ay.alloc|apply ay.drewN|apply ay.drew|apply ay.fS|apply ay.fP)|exact dH.out));(case bY=>repeat (first|(with_reducible first|exact HB.out|apply aD|apply aM|apply bq|refine bp ?_ (ay.ge dH.out))|exact HB.out));rintro e w40 ⟨rfl,hi,hb,hk⟩;have bI:=ah.mk (bB.trans eK hk (.inl rfl));have bP:=ah.mk (hb);have cw:=ah.mk (hi);clear HK;clear HB;clear dH;have HK:=bI;have HB:=bP;have dH:=cw;clear bI bP cw;(try clear hb);(try clear hb2);(try clear hk);(try clear hi);obtain ⟨sO,NR⟩:=dH.out;have Tb:=dR sO;have Tc:=dM sO;have Td:=aa sO 0;have Te:=aa sO 1;clear sO NR)))
     go_ret2
     exact ⟨cU,iC,iB,eK⟩
    ·rw [if_neg c37] at H
     exact absurd H bf
   ·rw [if_neg Y8] at H
    exact absurd H bf
  ·rw [if_neg VS] at H
   exact absurd H bf
def gA.f (a0:Int):Option (Bool):=some (a0 != 93)
theorem gA.calls (a0:Int) (r:Bool) (w:World) (h:gA.f a0=some r):
 Calls Tryz.prog 124 #[.int .u8 a0] w fun e w'=>e= .returned (.bool r)∧kA w w':=by
 have H:(some (a0 != 93))=some r:=h
 clear h
 obtain rfl:=Option.some.inj H
 go_enter Tryz.func124,Tryz.ntmps124
 go_wp2
 go_ret
 exact ⟨dL,kN⟩
def aN.l0:Nat→Int→ByteArray→Int→Option (ByteArray×Bool×ByteArray×Int)
 | 0,_,_,_ =>none
 |k + 1,x6,iw,fV=>if fV < (iw.size:Int) then (if 0≤fV then ((gA.f (bt iw fV)).bind fun t178=>(if t178=true then (aN.l0 k x6 iw (wrap64 (fV + 1))) else (if 0≤x6 then (if x6≤fV then (if fV≤(iw.size:Int) then (some (iw.extract (x6:Int).toNat (fV:Int).toNat,decide (fV > x6),iw,fV)) else (none)) else (none)) else (none)))) else (none)) else (if 0≤x6 then (if x6≤fV then (if fV≤(iw.size:Int) then (some (iw.extract (x6:Int).toNat (fV:Int).toNat,decide (fV > x6),iw,fV)) else (none)) else (none)) else (none))
def aN.f (k:Nat) (fk:ByteArray) (cR:Int):Option (ByteArray×Bool×ByteArray×Int):=aN.l0 k cR fk cR
theorem aN.fU:∀ k,(∀ y0 y1 y2,cN (aN.l0 k y0 y1 y2) (aN.l0 (k + 1) y0 y1 y2))
 | 0=>fun _ _ _ r h=>by simp [aN.l0] at h
 |k + 1=>by
  have oK:=aN.fU k
  ·intro y0 y1 y2
   unfold aN.l0
   repeat' first
   |(with_reducible exact oK _ _ _)
   |(with_reducible exact cN.refl _)
   |(with_reducible exact cN.none _)
   |(with_reducible refine cN.ite ?_ ?_)
   |(with_reducible refine cN.bind ?_ (fun _ =>?_))
   |refine cN.ite ?_ ?_
   |refine cN.bind ?_ (fun _ =>?_)
theorem aN.mono:∀ a0 a1 k,cN (aN.f k a0 a1) (aN.f (k + 1) a0 a1):=by
 intro a0 a1 k
 have oK:=aN.fU k
 unfold aN.f
 repeat' first
  |(with_reducible exact oK _ _ _)
  |(with_reducible exact cN.refl _)
  |(with_reducible exact cN.none _)
  |(with_reducible refine cN.ite ?_ ?_)
  |(with_reducible refine cN.bind ?_ (fun _ =>?_))
  |refine cN.ite ?_ ?_
  |refine cN.bind ?_ (fun _ =>?_)
theorem aN.calls (k:Nat) (g:Nat) (fk:ByteArray) (cR:Int) (r1:ByteArray) (r2:Bool) (r3:ByteArray) (r4:Int) (w0 w:World) (hI:ay w0 w g fk cR) (hB:Below w0.heap.size w0 w) (h:aN.f k fk cR=some (r1,r2,r3,r4)):
 Calls Tryz.prog 119 #[.pointer (some ⟨g,0,none⟩),.func (.func 124) #[] #[]] w fun e w'=>e= .returned (.tuple #[.string r1,.bool r2])∧ay w0 w' g r3 r4∧Below w0.heap.size w0 w'∧bB w w' g none:=by
 have dH:=ah.mk hI
 have HK:=ah.mk (bB.refl w g none)
 have HL:=ah.mk hB.size
 clear hI
 have VQ:=ah.mk hB.size
 have HB:=ah.mk hB
 clear hB
 have H:(aN.l0 k cR fk cR)=some (r1,r2,r3,r4):=h
 clear h
 have H':=ah.mk H
 clear H
 obtain ⟨ze,WW⟩:=dH.out
 have wh:=dR ze
 have wj:=dM ze
 have wk:=aa ze 0
 have wm:=aa ze 1
 clear ze WW
 go_enter Tryz.func119,Tryz.ntmps119
 go_wp2
 repeat (go_quiet (fail);try go_wp2)
 go_loopg [] k (fun kq w'=>∃ (bD:ByteArray) (aY:Int),ah (aN.l0 kq cR bD aY=some (r1,r2,r3,r4))∧ah (kq≤k)∧ah (ay w0 w' g bD aY)∧ah (bB w w' g none)∧ah (Below w0.heap.size w0 w'))
 case atStart=>exact ⟨(fk),(cR),H',⟨Nat.le_refl _⟩,⟨iC⟩,⟨eK⟩,⟨iB⟩⟩
 case round=>
  clear H'
  try clear c1
  try clear p2
  try clear wh
  try clear wj
  try clear wk
  try clear wm
  obtain ⟨bD,aY,HA,wS,dH,HK,HB⟩:=hrel
  cases gk with
  |zero=>exact absurd HA.out (by simp [aN.l0])
  |succ k1=>
   have H:=HA.out
   clear HA
   simp only [aN.l0] at H
   by_cases c4:aY < (bD.size:Int)
   ·rw [if_pos c4] at H
    have nP:decide (aY < (bD.size:Int))=true:=decide_eq_true c4
    clear c4
    by_cases c5: 0≤aY
    ·rw [if_pos c5] at H
     have vZ:decide (0≤aY)=true:=decide_eq_true c5
     clear c5
     replace H:=Option.bind_eq_some_iff.mp H
     obtain ⟨t178,GV,H⟩:=H
     replace H:(if t178=true then (aN.l0 k1 cR bD (wrap64 (aY + 1))) else (if 0≤cR then (if cR≤aY then (if aY≤(bD.size:Int) then (some (bD.extract (cR:Int).toNat (aY:Int).toNat,decide (aY > cR),bD,aY)) else (none)) else (none)) else (none)))=some (r1,r2,r3,r4):=H
     have A7:=ah.mk GV
     clear GV
     by_cases c8:t178=true
     ·subst c8
      have H1:(aN.l0 k1 cR bD (wrap64 (aY + 1)))=some (r1,r2,r3,r4):=by rw [if_pos rfl] at H;exact H
      clear H
      have H:=H1
      clear H1
      have H':=ah.mk H
      clear H
      obtain ⟨qA,Lq⟩:=dH.out
      have rz:=dR qA
      have rA:=dM qA
      have rB:=aa qA 0
      have rC:=aa qA 1
      clear qA Lq
      have p6: 0≤(aY:Int):=of_decide_eq_true cO
      have q6:aY < (bD.size:Int):=of_decide_eq_true cO
      have hx6:=ig bD aY
      replace p6:=eq_true p6
      replace q6:=eq_true q6
      go_wp2_with (first|(go_at_call 124;(with_reducible refine (gA.calls (bt bD aY) true _ A7.out).mono ?_);rintro e w' ⟨rfl,⟨nd,rfl⟩⟩;(try first|exact ⟨rfl,_,World.drewN_drewN _ _ _⟩|exact ⟨rfl,_,Eq.trans (World.drewN_drewN _ _ _) (congrArg (World.drewN _) (Nat.add_assoc _ _ _))⟩)))
      repeat (go_quiet (first|(go_at_call 124;(with_reducible refine (gA.calls (bt bD aY) true _ A7.out).mono ?_);rintro e w' ⟨rfl,⟨nd,rfl⟩⟩;(try first|exact ⟨rfl,_,World.drewN_drewN _ _ _⟩|exact ⟨rfl,_,Eq.trans (World.drewN_drewN _ _ _) (congrArg (World.drewN _) (Nat.add_assoc _ _ _))⟩)));try go_wp2_with (first|(go_at_call 124;(with_reducible refine (gA.calls (bt bD aY) true _ A7.out).mono ?_);rintro e w' ⟨rfl,⟨nd,rfl⟩⟩;(try first|exact ⟨rfl,_,World.drewN_drewN _ _ _⟩|exact ⟨rfl,_,Eq.trans (World.drewN_drewN _ _ _) (congrArg (World.drewN _) (Nat.add_assoc _ _ _))⟩))))
      go_roundg k1
      case measure=>have:=wS.out;omega
      case rel=>exact ⟨(bD),(wrap64 (aY + 1)),H',⟨ko⟩,⟨iC⟩,⟨eK⟩,⟨iB⟩⟩
     ·replace c8:=Bool.eq_false_iff.mpr c8
      subst c8
      have H1:(if 0≤cR then (if cR≤aY then (if aY≤(bD.size:Int) then (some (bD.extract (cR:Int).toNat (aY:Int).toNat,decide (aY > cR),bD,aY)) else (none)) else (none)) else (none))=some (r1,r2,r3,r4):=by rw [if_neg (show ¬ (false=true) by decide)] at H;exact H
      clear H
      have H:=H1
      clear H1
      by_cases c10: 0≤cR
      ·rw [if_pos c10] at H
       have oX:=eq_true c10
       have yz:decide (0≤cR)=true:=decide_eq_true c10
       clear c10
       by_cases c11:cR≤aY
       ·rw [if_pos c11] at H
        have AY:=eq_true c11
        have Nk:decide (cR≤aY)=true:=decide_eq_true c11
        clear c11
        by_cases c12:aY≤(bD.size:Int)
        ·rw [if_pos c12] at H
         have Eg:=eq_true c12
         have Nl:decide (aY≤(bD.size:Int))=true:=decide_eq_true c12
         clear c12
         simp only [Option.some.injEq,Prod.mk.injEq] at H
         obtain ⟨rfl,rfl,rfl,rfl⟩:=H
         obtain ⟨sB,Nn⟩:=dH.out
         have nJ:=dR sB
         have nK:=dM sB
         have nL:=aa sB 0
         have nM:=aa sB 1
         clear sB Nn
         have p6: 0≤(aY:Int):=of_decide_eq_true cO
         have q6:aY < (bD.size:Int):=of_decide_eq_true cO
         have hx6:=ig bD aY
         replace p6:=eq_true p6
         replace q6:=eq_true q6
         go_wp2_with (first|(go_at_call 124;(with_reducible refine (gA.calls (bt bD aY) false _ A7.out).mono ?_);rintro e w' ⟨rfl,⟨nd,rfl⟩⟩;(try first|exact ⟨rfl,_,World.drewN_drewN _ _ _⟩|exact ⟨rfl,_,Eq.trans (World.drewN_drewN _ _ _) (congrArg (World.drewN _) (Nat.add_assoc _ _ _))⟩)))
         repeat (go_quiet (first|(go_at_call 124;(with_reducible refine (gA.calls (bt bD aY) false _ A7.out).mono ?_);rintro e w' ⟨rfl,⟨nd,rfl⟩⟩;(try first|exact ⟨rfl,_,World.drewN_drewN _ _ _⟩|exact ⟨rfl,_,Eq.trans (World.drewN_drewN _ _ _) (congrArg (World.drewN _) (Nat.add_assoc _ _ _))⟩)));try go_wp2_with (first|(go_at_call 124;(with_reducible refine (gA.calls (bt bD aY) false _ A7.out).mono ?_);rintro e w' ⟨rfl,⟨nd,rfl⟩⟩;(try first|exact ⟨rfl,_,World.drewN_drewN _ _ _⟩|exact ⟨rfl,_,Eq.trans (World.drewN_drewN _ _ _) (congrArg (World.drewN _) (Nat.add_assoc _ _ _))⟩))))
         go_ret2
         exact ⟨cU,iC,iB,eK⟩
        ·rw [if_neg c12] at H
         exact absurd H bf
       ·rw [if_neg c11] at H
        exact absurd H bf
      ·rw [if_neg c10] at H
       exact absurd H bf
    ·rw [if_neg c5] at H
     exact absurd H bf
   ·rw [if_neg c4] at H
    have nP:decide (aY < (bD.size:Int))=false:=decide_eq_false c4
    clear c4
    by_cases c14: 0≤cR
    ·rw [if_pos c14] at H
     have Np:=eq_true c14
     have Nq:decide (0≤cR)=true:=decide_eq_true c14
     clear c14
     by_cases c15:cR≤aY
     ·rw [if_pos c15] at H
      have GW:=eq_true c15
      have S4:decide (cR≤aY)=true:=decide_eq_true c15
      clear c15
      by_cases c16:aY≤(bD.size:Int)
      ·rw [if_pos c16] at H
       have abX:=eq_true c16
       have abY:decide (aY≤(bD.size:Int))=true:=decide_eq_true c16
       clear c16
       simp only [Option.some.injEq,Prod.mk.injEq] at H
       obtain ⟨rfl,rfl,rfl,rfl⟩:=H
       obtain ⟨sD,Nr⟩:=dH.out
       have u9:=dR sD
       have vk:=dM sD
       have vo:=aa sD 0
       have vq:=aa sD 1
       clear sD Nr
       go_wp2
       repeat (go_quiet (fail);try go_wp2)
       go_ret2
       exact ⟨cU,iC,iB,eK⟩
      ·rw [if_neg c16] at H
       exact absurd H bf
     ·rw [if_neg c15] at H
      exact absurd H bf
    ·rw [if_neg c14] at H
     exact absurd H bf
end Go.Proofs.YtokpnfljjjjikaaGreatDoor.n9
