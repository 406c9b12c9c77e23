import Derived.Test.YtokpnfljjjjikaaGreatDoorQCbx6
set_option maxHeartbeats 8000000
set_option maxRecDepth 100000
namespace Go.Proofs.YtokpnfljjjjikaaGreatDoor.nK
open Go.RowKit Go.Proofs.aj.bQ Go.Proofs.aj.fR Go.Proofs.aj.cM
attribute [local go_sem] iY iZ ku kA ig ij jc jd
set_option linter.unusedVariables false
set_option linter.unusedSimpArgs false
def cj.l0:Nat→List Int→ByteArray→Int→Option (ByteArray×Bool×ByteArray×Int)
 | 0,_,_,_ =>none
 |k + 1,x6,gM,fM=>if fM < (gM.size:Int) then (if 0≤fM then (if (bt gM fM)=34 then (some (strOfNums x6,true,gM,wrap64 (fM + 1))) else (if (bt gM fM)=92 then ((cS.f gM (wrap64 (fM + 1))).bind fun Be=>(if Be.1 < 32 then (some ((⟨#[]⟩:ByteArray),false,Be.2.1,wrap64 (Be.2.2 + 1))) else (if Be.1 > 126 then (some ((⟨#[]⟩:ByteArray),false,Be.2.1,wrap64 (Be.2.2 + 1))) else (if x6.length < 140737488355328 then (cj.l0 k (x6 ++ [Be.1]) Be.2.1 (wrap64 (Be.2.2 + 1))) else (none))))) else (if (bt gM fM) < 32 then (some ((⟨#[]⟩:ByteArray),false,gM,wrap64 (fM + 1))) else (if (bt gM fM) > 126 then (some ((⟨#[]⟩:ByteArray),false,gM,wrap64 (fM + 1))) else (if x6.length < 140737488355328 then (cj.l0 k (x6 ++ [bt gM fM]) gM (wrap64 (fM + 1))) else (none)))))) else (none)) else (some ((⟨#[]⟩:ByteArray),false,gM,fM))
def cj.f (k:Nat) (eP:ByteArray) (cK:Int):Option (ByteArray×Bool×ByteArray×Int):=(bf.f eP cK 34).bind fun qM=>(if qM.1=true then (cj.l0 k ([]:List Int) qM.2.1 qM.2.2) else ((aH.f k qM.2.1 qM.2.2 46).bind fun jV=>(if 0≤qM.2.2 then (if qM.2.2≤jV.2.2 then (if jV.2.2≤(jV.2.1.size:Int) then (some (jV.2.1.extract (qM.2.2:Int).toNat (jV.2.2:Int).toNat,jV.1,jV.2.1,jV.2.2)) else (none)) else (none)) else (none))))
theorem cj.fJ:∀ k,(∀ y0 y1 y2,cH (cj.l0 k y0 y1 y2) (cj.l0 (k + 1) y0 y1 y2))
 | 0=>fun _ _ _ r h=>by simp [cj.l0] at h
 |k + 1=>by
  have nP:=cj.fJ k
  ·intro y0 y1 y2
   unfold cj.l0
   repeat' first
   |(with_reducible exact nP _ _ _)
   |(with_reducible exact aH.mono _ _ _ _)
   |(with_reducible exact cH.refl _)
   |(with_reducible exact cH.none _)
   |(with_reducible refine cH.ite ?_ ?_)
   |(with_reducible refine cH.bind ?_ (fun _ =>?_))
   |refine cH.ite ?_ ?_
   |refine cH.bind ?_ (fun _ =>?_)
theorem cj.mono:∀ a0 a1 k,cH (cj.f k a0 a1) (cj.f (k + 1) a0 a1):=by
 intro a0 a1 k
 have nP:=cj.fJ k
 unfold cj.f
 repeat' first
  |(with_reducible exact nP _ _ _)
  |(with_reducible exact aH.mono _ _ _ _)
  |(with_reducible exact cH.refl _)
  |(with_reducible exact cH.none _)
  |(with_reducible refine cH.ite ?_ ?_)
  |(with_reducible refine cH.bind ?_ (fun _ =>?_))
  |refine cH.ite ?_ ?_
  |refine cH.bind ?_ (fun _ =>?_)
theorem cj.calls (k:Nat) (g:Nat) (eP:ByteArray) (cK:Int) (r1:ByteArray) (r2:Bool) (r3:ByteArray) (r4:Int) (w0 w:World) (hI:ay w0 w g eP cK) (hB:Below w0.heap.size w0 w) (h:cj.f k eP cK=some (r1,r2,r3,r4)):
 Calls Tryz.prog 123 #[.pointer (some ⟨g,0,none⟩)] w fun e w'=>e= .returned (.tuple #[.string r1,.bool r2])∧ay w0 w' g r3 r4∧Below w0.heap.size w0 w'∧br w w' g none:=by
 have dx:=ah.mk hI
 have HK:=ah.mk (br.refl w g none)
 have HL:=ah.mk hB.size
 clear hI
 have TQ:=ah.mk hB.size
 have HB:=ah.mk hB
 clear hB
 have H:((bf.f eP cK 34).bind fun qM=>(if qM.1=true then (cj.l0 k ([]:List Int) qM.2.1 qM.2.2) else ((aH.f k qM.2.1 qM.2.2 46).bind fun jV=>(if 0≤qM.2.2 then (if qM.2.2≤jV.2.2 then (if jV.2.2≤(jV.2.1.size:Int) then (some (jV.2.1.extract (qM.2.2:Int).toNat (jV.2.2:Int).toNat,jV.1,jV.2.1,jV.2.2)) else (none)) else (none)) else (none)))))=some (r1,r2,r3,r4):=h
 clear h
 replace H:=Option.bind_eq_some_iff.mp H
 obtain ⟨⟨t163,t164,t165⟩,nr,H⟩:=H
 replace H:(if t163=true then (cj.l0 k ([]:List Int) t164 t165) else ((aH.f k t164 t165 46).bind fun jV=>(if 0≤t165 then (if t165≤jV.2.2 then (if jV.2.2≤(jV.2.1.size:Int) then (some (jV.2.1.extract (t165:Int).toNat (jV.2.2:Int).toNat,jV.1,jV.2.1,jV.2.2)) else (none)) else (none)) else (none))))=some (r1,r2,r3,r4):=H
 have A2:=ah.mk nr
 clear nr
 by_cases c3:t163=true
 ·subst c3
  have H1:(cj.l0 k ([]:List Int) t164 t165)=some (r1,r2,r3,r4):=by rw [if_pos rfl] at H;exact H
  clear H
  have H:=H1
  clear H1
  have H':=ah.mk H
  clear H
  go_enter Tryz.func123,Tryz.ntmps123
  go_wp2_with (first|(go_at_call 56;(with_reducible refine (bf.calls g eP cK 34 true t164 t165 w0 _ ?aW ?bY A2.out).mono ?_);(case aW=>repeat (first|(with_reducible first|exact dx.out|apply ay.alloc|apply ay.drewN|apply ay.drew|apply ay.fH|apply ay.fD)|exact dx.out));(case bY=>repeat (first|(with_reducible first|exact HB.out|apply aG|apply aM|apply bn|refine bh ?_ (ay.ge dx.out))|exact HB.out));rintro e w4 ⟨rfl,hi,hb,hk⟩;have bL:=ah.mk (br.trans ez hk (.inl rfl));have bS:=ah.mk (hb);have cG:=ah.mk (hi);clear HK;clear HB;clear dx;have HK:=bL;have HB:=bS;have dx:=cG;clear bL bS cG;(try clear hb);(try clear hb2);(try clear hk);(try clear hi)))
  repeat (go_quiet (first|(go_at_call 56;(with_reducible refine (bf.calls g eP cK 34 true t164 t165 w0 _ ?aW ?bY A2.out).mono ?_);(case aW=>repeat (first|(with_reducible first|exact dx.out|apply ay.alloc|apply ay.drewN|apply ay.drew|apply ay.fH|apply ay.fD)|exact dx.out));(case bY=>repeat (first|(with_reducible first|exact HB.out|apply aG|apply aM|apply bn|refine bh ?_ (ay.ge dx.out))|exact HB.out));rintro e w4 ⟨rfl,hi,hb,hk⟩;have bL:=ah.mk (br.trans ez hk (.inl rfl));have bS:=ah.mk (hb);have cG:=ah.mk (hi);clear HK;clear HB;clear dx;have HK:=bL;have HB:=bS;have dx:=cG;clear bL bS cG;(try clear hb);(try clear hb2);(try clear hk);(try clear hi)));try go_wp2_with (first|(go_at_call 56;(with_reducible refine (bf.calls g eP cK 34 true t164 t165 w0 _ ?aW ?bY A2.out).mono ?_);(case aW=>repeat (first|(with_reducible first|exact dx.out|apply ay.alloc|apply ay.drewN|apply ay.drew|apply ay.fH|apply ay.fD)|exact dx.out));(case bY=>repeat (first|(with_reducible first|exact HB.out|apply aG|apply aM|apply bn|refine bh ?_ (ay.ge dx.out))|exact HB.out));rintro e w4 ⟨rfl,hi,hb,hk⟩;have bL:=ah.mk (br.trans ez hk (.inl rfl));have bS:=ah.mk (hb);have cG:=ah.mk (hi);clear HK;clear HB;clear dx;have HK:=bL;have HB:=bS;have dx:=cG;clear bL bS cG;(try clear hb);(try clear hb2);(try clear hk);(try clear hi))))
  go_loopg [6] k (fun kq v6 w'=>∃ (mX:List Int) (bw:ByteArray) (aT:Int),ah (cj.l0 kq mX bw aT=some (r1,r2,r3,r4))∧ah (kq≤k)∧ah (Kd.R (Kd.int .u8) 5 w' w.heap.size (fun _ =>True) v6 mX)∧ah (ay w0 w' g bw aT)∧ah (br w w' g none)∧ah (Below w0.heap.size w0 w'))
  case atStart=>exact ⟨(([]:List Int)),(t164),(t165),H',⟨Nat.le_refl _⟩,⟨BL⟩,⟨gU⟩,⟨ez⟩,⟨gT⟩⟩
  case round=>
   clear H'
   try clear c1
   try clear p2
   try clear c3
   obtain ⟨mX,bw,aT,HA,uz,lK,dx,HK,HB⟩:=hrel
   cases gk with
   |zero=>exact absurd HA.out (by simp [cj.l0])
   |succ k1=>
    have H:=HA.out
    clear HA
    simp only [cj.l0] at H
    by_cases c5:aT < (bw.size:Int)
    ·rw [if_pos c5] at H
     have tR:decide (aT < (bw.size:Int))=true:=decide_eq_true c5
     clear c5
     by_cases c6: 0≤aT
     ·rw [if_pos c6] at H
      have pP:decide (0≤aT)=true:=decide_eq_true c6
      clear c6
      by_cases c8:(bt bw aT)=34
      ·rw [if_pos c8] at H
       have JM:((bt bw aT) == 34)=true:=beq_iff_eq.mpr c8
       have aaT:((bt bw aT) != 34)=false:=bne_eq_false_iff_eq.mpr c8
       clear c8
       simp only [Option.some.injEq,Prod.mk.injEq] at H
       obtain ⟨rfl,rfl,rfl,rfl⟩:=H
       obtain ⟨oZ,IB⟩:=dx.out
       have pX:=dI oZ
       have pY:=dB oZ
       have pZ:=aa oZ 0
       have p8:=aa oZ 1
       clear oZ IB
       have p7: 0≤(aT:Int):=of_decide_eq_true cL
       have q7:aT < (bw.size:Int):=of_decide_eq_true cL
       have Dk:=gI bw aT
       replace p7:=eq_true p7
       replace q7:=eq_true q7
       have ajQ:∀ n_:Nat,Sem.run Tryz.prog (convert 23 9 u6) ((wr.drewN n_).setCell ⟨g,1,none⟩ (.int .i64 (wrap64 (aT + 1))))= .ok (.string (strOfNums mX)) ((wr.drewN n_).setCell ⟨g,1,none⟩ (.int .i64 (wrap64 (aT + 1)))):=fun n_ =>NY (P:=Tryz.prog) Tryz.underlying23 Tryz.underlying5 Tryz.underlying9 (Kd.Ut tM)
       go_wp2
       repeat (go_quiet (fail);try go_wp2)
       go_ret2
       exact ⟨cO,gU,gT,ez⟩
      ·rw [if_neg c8] at H
       have JM:((bt bw aT) == 34)=false:=beq_eq_false_iff_ne.mpr c8
       have aaT:((bt bw aT) != 34)=true:=bne_iff_ne.mpr c8
       by_cases c11:(bt bw aT)=92
       ·rw [if_pos c11] at H
        have zg:((bt bw aT) == 92)=true:=beq_iff_eq.mpr c11
        have LH:((bt bw aT) != 92)=false:=bne_eq_false_iff_eq.mpr c11
        clear c11
        replace H:=Option.bind_eq_some_iff.mp H
        obtain ⟨⟨t169,t170,t171⟩,E7,H⟩:=H
        replace H:(if t169 < 32 then (some ((⟨#[]⟩:ByteArray),false,t170,wrap64 (t171 + 1))) else (if t169 > 126 then (some ((⟨#[]⟩:ByteArray),false,t170,wrap64 (t171 + 1))) else (if mX.length < 140737488355328 then (cj.l0 k1 (mX ++ [t169]) t170 (wrap64 (t171 + 1))) else (none))))=some (r1,r2,r3,r4):=H
        have Lh:=ah.mk E7
        clear E7
        by_cases c13:t169 < 32
        ·rw [if_pos c13] at H
         have E8:decide (t169 < 32)=true:=decide_eq_true c13
         clear c13
         simp only [Option.some.injEq,Prod.mk.injEq] at H
         obtain ⟨rfl,rfl,rfl,rfl⟩:=H
         obtain ⟨L5,adi⟩:=dx.out
         have sZ:=dI L5
         have s7:=dB L5
         have s8:=aa L5 0
         have s9:=aa L5 1
         clear L5 adi
         have p7: 0≤(aT:Int):=of_decide_eq_true cL
         have q7:aT < (bw.size:Int):=of_decide_eq_true cL
         have Dk:=gI bw aT
         replace p7:=eq_true p7
         replace q7:=eq_true q7
         go_wp2_with (first|(go_at_call 115;(with_reducible refine (cS.calls g bw (wrap64 (aT + 1)) t169 t170 t171 w0 _ ?aW ?bY Lh.out).mono ?_);(case aW=>repeat (first|(with_reducible first|exact dx.out|apply ay.alloc|apply ay.drewN|apply ay.drew|apply ay.fH|apply ay.fD)|exact dx.out));(case bY=>repeat (first|(with_reducible first|exact HB.out|apply aG|apply aM|apply bn|refine bh ?_ (ay.ge dx.out))|exact HB.out));rintro e GP ⟨rfl,hi,hb,hk⟩;have bL:=ah.mk (Kd.gL (Kd.rQ (ay.apart (show ay w0 _ g bw (wrap64 (aT + 1)) from by repeat (first|(with_reducible first|exact dx.out|apply ay.alloc|apply ay.drewN|apply ay.drew|apply ay.fH|apply ay.fD)|exact dx.out)) tM bG) hk (fun _ h=>h.2)) (fun _ h=>h.1));have bS:=ah.mk (br.trans ez hk (.inl rfl));have cG:=ah.mk (hb);have dA:=ah.mk (hi);clear lK;clear HK;clear HB;clear dx;have lK:=bL;have HK:=bS;have HB:=cG;have dx:=dA;clear bL bS cG dA;(try clear hb);(try clear hb2);(try clear hk);(try clear hi);obtain ⟨qN,L6⟩:=dx.out;have nu:=dI qN;have nv:=dB qN;have ny:=aa qN 0;have nA:=aa qN 1;clear qN L6))
         repeat (go_quiet (first|(go_at_call 115;(with_reducible refine (cS.calls g bw (wrap64 (aT + 1)) t169 t170 t171 w0 _ ?aW ?bY Lh.out).mono ?_);(case aW=>repeat (first|(with_reducible first|exact dx.out|apply ay.alloc|apply ay.drewN|apply ay.drew|apply ay.fH|apply ay.fD)|exact dx.out));(case bY=>repeat (first|(with_reducible first|exact HB.out|apply aG|apply aM|apply bn|refine bh ?_ (ay.ge dx.out))|exact HB.out));rintro e GP ⟨rfl,hi,hb,hk⟩;have bL:=ah.mk (Kd.gL (Kd.rQ (ay.apart (show ay w0 _ g bw (wrap64 (aT + 1)) from by repeat (first|(with_reducible first|exact dx.out|apply ay.alloc|apply ay.drewN|apply ay.drew|apply ay.fH|apply ay.fD)|exact dx.out)) tM bG) hk (fun _ h=>h.2)) (fun _ h=>h.1));have bS:=ah.mk (br.trans ez hk (.inl rfl));have cG:=ah.mk (hb);have dA:=ah.mk (hi);clear lK;clear HK;clear HB;clear dx;have lK:=bL;have HK:=bS;have HB:=cG;have dx:=dA;clear bL bS cG dA;(try clear hb);(try clear hb2);(try clear hk);(try clear hi);obtain ⟨qN,L6⟩:=dx.out;have nu:=dI qN;have nv:=dB qN;have ny:=aa qN 0;have nA:=aa qN 1;clear qN L6));try go_wp2_with (first|(go_at_call 115;(with_reducible refine (cS.calls g bw (wrap64 (aT + 1)) t169 t170 t171 w0 _ ?aW ?bY Lh.out).mono ?_);(case aW=>repeat (first|(with_reducible first|exact dx.out|apply ay.alloc|apply ay.drewN|apply ay.drew|apply ay.fH|apply ay.fD)|exact dx.out));(case bY=>repeat (first|(with_reducible first|exact HB.out|apply aG|apply aM|apply bn|refine bh ?_ (ay.ge dx.out))|exact HB.out));rintro e GP ⟨rfl,hi,hb,hk⟩;have bL:=ah.mk (Kd.gL (Kd.rQ (ay.apart (show ay w0 _ g bw (wrap64 (aT + 1)) from by repeat (first|(with_reducible first|exact dx.out|apply ay.alloc|apply ay.drewN|apply ay.drew|apply ay.fH|apply ay.fD)|exact dx.out)) tM bG) hk (fun _ h=>h.2)) (fun _ h=>h.1));have bS:=ah.mk (br.trans ez hk (.inl rfl));have cG:=ah.mk (hb);have dA:=ah.mk (hi);clear lK;clear HK;clear HB;clear dx;have lK:=bL;have HK:=bS;have HB:=cG;have dx:=dA;clear bL bS cG dA;(try clear hb);(try clear hb2);(try clear hk);(try clear hi);obtain ⟨qN,L6⟩:=dx.out;have nu:=dI qN;have nv:=dB qN;have ny:=aa qN 0;have nA:=aa qN 1;clear qN L6)))
         go_ret2
         exact ⟨cO,gU,gT,ez⟩
        ·rw [if_neg c13] at H
         have E8:decide (t169 < 32)=false:=decide_eq_false c13
         clear c13
         by_cases c17:t169 > 126
         ·rw [if_pos c17] at H
          have Rm:decide (126 < t169)=true:=decide_eq_true c17
          clear c17
          simp only [Option.some.injEq,Prod.mk.injEq] at H
          obtain ⟨rfl,rfl,rfl,rfl⟩:=H
          obtain ⟨L8,adj⟩:=dx.out
          have xS:=dI L8
          have xU:=dB L8
          have xV:=aa L8 0
          have xW:=aa L8 1
          clear L8 adj
          have p7: 0≤(aT:Int):=of_decide_eq_true cL
          have q7:aT < (bw.size:Int):=of_decide_eq_true cL
          have Dk:=gI bw aT
          replace p7:=eq_true p7
          replace q7:=eq_true q7
          go_wp2_with (first|(go_at_call 115;(with_reducible refine (cS.calls g bw (wrap64 (aT + 1)) t169 t170 t171 w0 _ ?aW ?bY Lh.out).mono ?_);(case aW=>repeat (first|(with_reducible first|exact dx.out|apply ay.alloc|apply ay.drewN|apply ay.drew|apply ay.fH|apply ay.fD)|exact dx.out));(case bY=>repeat (first|(with_reducible first|exact HB.out|apply aG|apply aM|apply bn|refine bh ?_ (ay.ge dx.out))|exact HB.out));rintro e LZ ⟨rfl,hi,hb,hk⟩;have bL:=ah.mk (Kd.gL (Kd.rQ (ay.apart (show ay w0 _ g bw (wrap64 (aT + 1)) from by repeat (first|(with_reducible first|exact dx.out|apply ay.alloc|apply ay.drewN|apply ay.drew|apply ay.fH|apply ay.fD)|exact dx.out)) tM bG) hk (fun _ h=>h.2)) (fun _ h=>h.1));have bS:=ah.mk (br.trans ez hk (.inl rfl));have cG:=ah.mk (hb);have dA:=ah.mk (hi);clear lK;clear HK;clear HB;clear dx;have lK:=bL;have HK:=bS;have HB:=cG;have dx:=dA;clear bL bS cG dA;(try clear hb);(try clear hb2);(try clear hk);(try clear hi);obtain ⟨qO,L9⟩:=dx.out;have Ee:=dI qO;have Ef:=dB qO;have Eg:=aa qO 0;have Eh:=aa qO 1;clear qO L9))
          repeat (go_quiet (first|(go_at_call 115;(with_reducible refine (cS.calls g bw (wrap64 (aT + 1)) t169 t170 t171 w0 _ ?aW ?bY Lh.out).mono ?_);(case aW=>repeat (first|(with_reducible first|exact dx.out|apply ay.alloc|apply ay.drewN|apply ay.drew|apply ay.fH|apply ay.fD)|exact dx.out));(case bY=>repeat (first|(with_reducible first|exact HB.out|apply aG|apply aM|apply bn|refine bh ?_ (ay.ge dx.out))|exact HB.out));rintro e LZ ⟨rfl,hi,hb,hk⟩;have bL:=ah.mk (Kd.gL (Kd.rQ (ay.apart (show ay w0 _ g bw (wrap64 (aT + 1)) from by repeat (first|(with_reducible first|exact dx.out|apply ay.alloc|apply ay.drewN|apply ay.drew|apply ay.fH|apply ay.fD)|exact dx.out)) tM bG) hk (fun _ h=>h.2)) (fun _ h=>h.1));have bS:=ah.mk (br.trans ez hk (.inl rfl));have cG:=ah.mk (hb);have dA:=ah.mk (hi);clear lK;clear HK;clear HB;clear dx;have lK:=bL;have HK:=bS;have HB:=cG;have dx:=dA;clear bL bS cG dA;(try clear hb);(try clear hb2);(try clear hk);(try clear hi);obtain ⟨qO,L9⟩:=dx.out;have Ee:=dI qO;have Ef:=dB qO;have Eg:=aa qO 0;have Eh:=aa qO 1;clear qO L9));try go_wp2_with (first|(go_at_call 115;(with_reducible refine (cS.calls g bw (wrap64 (aT + 1)) t169 t170 t171 w0 _ ?aW ?bY Lh.out).mono ?_);(case aW=>repeat (first|(with_reducible first|exact dx.out|apply ay.alloc|apply ay.drewN|apply ay.drew|apply ay.fH|apply ay.fD)|exact dx.out));(case bY=>repeat (first|(with_reducible first|exact HB.out|apply aG|apply aM|apply bn|refine bh ?_ (ay.ge dx.out))|exact HB.out));rintro e LZ ⟨rfl,hi,hb,hk⟩;have bL:=ah.mk (Kd.gL (Kd.rQ (ay.apart (show ay w0 _ g bw (wrap64 (aT + 1)) from by repeat (first|(with_reducible first|exact dx.out|apply ay.alloc|apply ay.drewN|apply ay.drew|apply ay.fH|apply ay.fD)|exact dx.out)) tM bG) hk (fun _ h=>h.2)) (fun _ h=>h.1));have bS:=ah.mk (br.trans ez hk (.inl rfl));have cG:=ah.mk (hb);have dA:=ah.mk (hi);clear lK;clear HK;clear HB;clear dx;have lK:=bL;have HK:=bS;have HB:=cG;have dx:=dA;clear bL bS cG dA;(try clear hb);(try clear hb2);(try clear hk);(try clear hi);obtain ⟨qO,L9⟩:=dx.out;have Ee:=dI qO;have Ef:=dB qO;have Eg:=aa qO 0;have Eh:=aa qO 1;clear qO L9)))
          go_ret2
          exact ⟨cO,gU,gT,ez⟩
         ·rw [if_neg c17] at H
          have Rm:decide (126 < t169)=false:=decide_eq_false c17
          clear c17
          by_cases c21:mX.length < 140737488355328
          ·rw [if_pos c21] at H
           have U1:=ah.mk c21
           clear c21
           obtain ⟨adk,Ma⟩:∃ y_:List Int,y_=(mX ++ [t169]):=⟨_,rfl⟩
           replace H:(cj.l0 k1 adk t170 (wrap64 (t171 + 1)))=some (r1,r2,r3,r4):=by first|(rw [Ma];with_reducible exact H)|(have Oz:=(Option.bind_some _ _).symm.trans H;rw [Ma];with_reducible exact Oz)|(have Oz:=(Option.bind_some _ _).symm.trans H;with_reducible exact Oz)|with_reducible exact H|(rw [Ma];exact H)|exact H
           have U2:=ah.mk Ma
           clear Ma
           have H':=ah.mk H
           clear H
           obtain ⟨Mb,adl⟩:=dx.out
           have yg:=dI Mb
           have yh:=dB Mb
           have yj:=aa Mb 0
           have yl:=aa Mb 1
           clear Mb adl
           have p7: 0≤(aT:Int):=of_decide_eq_true cL
           have q7:aT < (bw.size:Int):=of_decide_eq_true cL
           have Dk:=gI bw aT
           replace p7:=eq_true p7
           replace q7:=eq_true q7
           go_wp2_with (first|(go_at_call 115;(with_reducible refine (cS.calls g bw (wrap64 (aT + 1)) t169 t170 t171 w0 _ ?aW ?bY Lh.out).mono ?_);(case aW=>repeat (first|(with_reducible first|exact dx.out|apply ay.alloc|apply ay.drewN|apply ay.drew|apply ay.fH|apply ay.fD)|exact dx.out));(case bY=>repeat (first|(with_reducible first|exact HB.out|apply aG|apply aM|apply bn|refine bh ?_ (ay.ge dx.out))|exact HB.out));rintro e Li ⟨rfl,hi,hb,hk⟩;have bL:=ah.mk (Kd.gL (Kd.rQ (ay.apart (show ay w0 _ g bw (wrap64 (aT + 1)) from by repeat (first|(with_reducible first|exact dx.out|apply ay.alloc|apply ay.drewN|apply ay.drew|apply ay.fH|apply ay.fD)|exact dx.out)) tM bG) hk (fun _ h=>h.2)) (fun _ h=>h.1));have bS:=ah.mk (br.trans ez hk (.inl rfl));have cG:=ah.mk (hb);have dA:=ah.mk (hi);clear lK;clear HK;clear HB;clear dx;have lK:=bL;have HK:=bS;have HB:=cG;have dx:=dA;clear bL bS cG dA;(try clear hb);(try clear hb2);(try clear hk);(try clear hi);obtain ⟨qP,Mc⟩:=dx.out;have ym:=dI qP;have yq:=dB qP;have yt:=aa qP 0;have yu:=aa qP 1;clear qP Mc)|((with_reducible refine kS (b:= .append) (xs:=#[.tmp 77,.tmp 79]) rfl ?_);at_builtin;refine Kd.qx (Kd.int .u8) w.heap.size rfl (.tmp 77) (.tmp 79) 23 5 (.int .u8 0) 1 rfl Tryz.underlying23 GH rfl bG aq u6 mX t169 [.int .u8 t169] (fun _ =>True) (fun _ =>False) rfl sA ?aP (fun _ hk=>hk.elim) ?aF ?aO (Below.refl _ _) ?aS ?aL ?_;(case aP=>exact rfl);(case aF=>exact (fun _ _ =>trivial));(case aO=>exact NS);(case aS=>exact (oI (w:=w) (g:=g) (row:=none) ez));(case aL=>have:=U1.out;omega);intro v173 TS ho hb hg hat;rw [← U2.out] at ho;have bL:=ah.mk (ay.grown gU hg (ay.own_ne dx.out lK.out bG));have bS:=ah.mk (bR gT HL.out hb);have cG:=ah.mk (br.trans ez (br.oY hg g) (Kd.uD lK.out));have dA:=ah.mk (ho);clear dx;clear HB;clear HK;clear lK;have dx:=bL;have HB:=bS;have HK:=cG;have U3:=dA;clear bL bS cG dA;clear ho hb hg hat))
           repeat (go_quiet (first|(go_at_call 115;(with_reducible refine (cS.calls g bw (wrap64 (aT + 1)) t169 t170 t171 w0 _ ?aW ?bY Lh.out).mono ?_);(case aW=>repeat (first|(with_reducible first|exact dx.out|apply ay.alloc|apply ay.drewN|apply ay.drew|apply ay.fH|apply ay.fD)|exact dx.out));(case bY=>repeat (first|(with_reducible first|exact HB.out|apply aG|apply aM|apply bn|refine bh ?_ (ay.ge dx.out))|exact HB.out));rintro e Li ⟨rfl,hi,hb,hk⟩;have bL:=ah.mk (Kd.gL (Kd.rQ (ay.apart (show ay w0 _ g bw (wrap64 (aT + 1)) from by repeat (first|(with_reducible first|exact dx.out|apply ay.alloc|apply ay.drewN|apply ay.drew|apply ay.fH|apply ay.fD)|exact dx.out)) tM bG) hk (fun _ h=>h.2)) (fun _ h=>h.1));have bS:=ah.mk (br.trans ez hk (.inl rfl));have cG:=ah.mk (hb);have dA:=ah.mk (hi);clear lK;clear HK;clear HB;clear dx;have lK:=bL;have HK:=bS;have HB:=cG;have dx:=dA;clear bL bS cG dA;(try clear hb);(try clear hb2);(try clear hk);(try clear hi);obtain ⟨qP,Mc⟩:=dx.out;have ym:=dI qP;have yq:=dB qP;have yt:=aa qP 0;have yu:=aa qP 1;clear qP Mc)|((with_reducible refine kS (b:= .append) (xs:=#[.tmp 77,.tmp 79]) rfl ?_);at_builtin;refine Kd.qx (Kd.int .u8) w.heap.size rfl (.tmp 77) (.tmp 79) 23 5 (.int .u8 0) 1 rfl Tryz.underlying23 GH rfl bG aq u6 mX t169 [.int .u8 t169] (fun _ =>True) (fun _ =>False) rfl sA ?aP (fun _ hk=>hk.elim) ?aF ?aO (Below.refl _ _) ?aS ?aL ?_;(case aP=>exact rfl);(case aF=>exact (fun _ _ =>trivial));(case aO=>exact NS);(case aS=>exact (oI (w:=w) (g:=g) (row:=none) ez));(case aL=>have:=U1.out;omega);intro v173 TS ho hb hg hat;rw [← U2.out] at ho;have bL:=ah.mk (ay.grown gU hg (ay.own_ne dx.out lK.out bG));have bS:=ah.mk (bR gT HL.out hb);have cG:=ah.mk (br.trans ez (br.oY hg g) (Kd.uD lK.out));have dA:=ah.mk (ho);clear dx;clear HB;clear HK;clear lK;have dx:=bL;have HB:=bS;have HK:=cG;have U3:=dA;clear bL bS cG dA;clear ho hb hg hat));try go_wp2_with (first|(go_at_call 115;(with_reducible refine (cS.calls g bw (wrap64 (aT + 1)) t169 t170 t171 w0 _ ?aW ?bY Lh.out).mono ?_);(case aW=>repeat (first|(with_reducible first|exact dx.out|apply ay.alloc|apply ay.drewN|apply ay.drew|apply ay.fH|apply ay.fD)|exact dx.out));(case bY=>repeat (first|(with_reducible first|exact HB.out|apply aG|apply aM|apply bn|refine bh ?_ (ay.ge dx.out))|exact HB.out));rintro e Li ⟨rfl,hi,hb,hk⟩;have bL:=ah.mk (Kd.gL (Kd.rQ (ay.apart (show ay w0 _ g bw (wrap64 (aT + 1)) from by repeat (first|(with_reducible first|exact dx.out|apply ay.alloc|apply ay.drewN|apply ay.drew|apply ay.fH|apply ay.fD)|exact dx.out)) tM bG) hk (fun _ h=>h.2)) (fun _ h=>h.1));have bS:=ah.mk (br.trans ez hk (.inl rfl));have cG:=ah.mk (hb);have dA:=ah.mk (hi);clear lK;clear HK;clear HB;clear dx;have lK:=bL;have HK:=bS;have HB:=cG;have dx:=dA;clear bL bS cG dA;(try clear hb);(try clear hb2);(try clear hk);(try clear hi);obtain ⟨qP,Mc⟩:=dx.out;have ym:=dI qP;have yq:=dB qP;have yt:=aa qP 0;have yu:=aa qP 1;clear qP Mc)|((with_reducible refine kS (b:= .append) (xs:=#[.tmp 77,.tmp 79]) rfl ?_);at_builtin;refine Kd.qx (Kd.int .u8) w.heap.size rfl (.tmp 77) (.tmp 79) 23 5 (.int .u8 0) 1 rfl Tryz.underlying23 GH rfl bG aq u6 mX t169 [.int .u8 t169] (fun _ =>True) (fun _ =>False) rfl sA ?aP (fun _ hk=>hk.elim) ?aF ?aO (Below.refl _ _) ?aS ?aL ?_;(case aP=>exact rfl);(case aF=>exact (fun _ _ =>trivial));(case aO=>exact NS);(case aS=>exact (oI (w:=w) (g:=g) (row:=none) ez));(case aL=>have:=U1.out;omega);intro v173 TS ho hb hg hat;rw [← U2.out] at ho;have bL:=ah.mk (ay.grown gU hg (ay.own_ne dx.out lK.out bG));have bS:=ah.mk (bR gT HL.out hb);have cG:=ah.mk (br.trans ez (br.oY hg g) (Kd.uD lK.out));have dA:=ah.mk (ho);clear dx;clear HB;clear HK;clear lK;have dx:=bL;have HB:=bS;have HK:=cG;have U3:=dA;clear bL bS cG dA;clear ho hb hg hat)))
           go_roundg k1
           case measure=>have:=uz.out;omega
           case rel=>exact ⟨(adk),(t170),(wrap64 (t171 + 1)),H',⟨kX⟩,⟨by (with_reducible repeat (first|apply Kd.iD|apply Kd.iL|apply Kd.jT));exact U3.out⟩,⟨gU⟩,⟨ez⟩,⟨gT⟩⟩
          ·rw [if_neg c21] at H
           exact absurd H aV
       ·rw [if_neg c11] at H
        have zg:((bt bw aT) == 92)=false:=beq_eq_false_iff_ne.mpr c11
        have LH:((bt bw aT) != 92)=true:=bne_iff_ne.mpr c11
        by_cases GM:(bt bw aT) < 32
        ·rw [if_pos GM] at H
         have CN:decide ((bt bw aT) < 32)=true:=decide_eq_true GM
         clear GM
         simp only [Option.some.injEq,Prod.mk.injEq] at H
         obtain ⟨rfl,rfl,rfl,rfl⟩:=H
         obtain ⟨Md,adm⟩:=dx.out
         have Qv:=dI Md
         have Qw:=dB Md
         have Qx:=aa Md 0
         have Qy:=aa Md 1
         clear Md adm
         have p7: 0≤(aT:Int):=of_decide_eq_true cL
         have q7:aT < (bw.size:Int):=of_decide_eq_true cL
         have Dk:=gI bw aT
         replace p7:=eq_true p7
         replace q7:=eq_true q7
         go_wp2
         repeat (go_quiet (fail);try go_wp2)
         go_ret2
         exact ⟨cO,gU,gT,ez⟩
        ·rw [if_neg GM] at H
         have CN:decide ((bt bw aT) < 32)=false:=decide_eq_false GM
         clear GM
         by_cases c28:(bt bw aT) > 126
         ·rw [if_pos c28] at H
          have GQ:decide (126 < (bt bw aT))=true:=decide_eq_true c28
          clear c28
          simp only [Option.some.injEq,Prod.mk.injEq] at H
          obtain ⟨rfl,rfl,rfl,rfl⟩:=H
          obtain ⟨Me,adn⟩:=dx.out
          have xK:=dI Me
          have xL:=dB Me
          have xM:=aa Me 0
          have xN:=aa Me 1
          clear Me adn
          have p7: 0≤(aT:Int):=of_decide_eq_true cL
          have q7:aT < (bw.size:Int):=of_decide_eq_true cL
          have Dk:=gI bw aT
          replace p7:=eq_true p7
          replace q7:=eq_true q7
          go_wp2
          repeat (go_quiet (fail);try go_wp2)
          go_ret2
          exact ⟨cO,gU,gT,ez⟩
         ·rw [if_neg c28] at H
          have GQ:decide (126 < (bt bw aT))=false:=decide_eq_false c28
          clear c28
          by_cases Ol:mX.length < 140737488355328
          ·rw [if_pos Ol] at H
           have U4:=ah.mk Ol
           clear Ol
           obtain ⟨ado,Mf⟩:∃ y_:List Int,y_=(mX ++ [bt bw aT]):=⟨_,rfl⟩
           replace H:(cj.l0 k1 ado bw (wrap64 (aT + 1)))=some (r1,r2,r3,r4):=by first|(rw [Mf];with_reducible exact H)|(have Oz:=(Option.bind_some _ _).symm.trans H;rw [Mf];with_reducible exact Oz)|(have Oz:=(Option.bind_some _ _).symm.trans H;with_reducible exact Oz)|with_reducible exact H|(rw [Mf];exact H)|exact H
           have U5:=ah.mk Mf
           clear Mf
           have H':=ah.mk H
           clear H
           obtain ⟨Mg,adp⟩:=dx.out
           have yH:=dI Mg
           have yI:=dB Mg
           have yJ:=aa Mg 0
           have yK:=aa Mg 1
           clear Mg adp
           have p7: 0≤(aT:Int):=of_decide_eq_true cL
           have q7:aT < (bw.size:Int):=of_decide_eq_true cL
           have Dk:=gI bw aT
           replace p7:=eq_true p7
           replace q7:=eq_true q7
           go_wp2_with (first|((with_reducible refine kS (b:= .append) (xs:=#[.tmp 77,.tmp 79]) rfl ?_);at_builtin;refine Kd.qx (Kd.int .u8) w.heap.size rfl (.tmp 77) (.tmp 79) 23 5 (.int .u8 0) 1 rfl Tryz.underlying23 GH rfl bG aq u6 mX (bt bw aT) [.int .u8 (bt bw aT)] (fun _ =>True) (fun _ =>False) rfl sA ?aP (fun _ hk=>hk.elim) ?aF ?aO (Below.refl _ _) ?aS ?aL ?_;(case aP=>exact rfl);(case aF=>exact (fun _ _ =>trivial));(case aO=>exact NR);(case aS=>exact (oI (w:=w) (g:=g) (row:=none) ez));(case aL=>have:=U4.out;omega);intro adq Fa ho hb hg hat;rw [← U5.out] at ho;have bL:=ah.mk (ay.grown gU hg (ay.own_ne dx.out lK.out bG));have bS:=ah.mk (bR gT HL.out hb);have cG:=ah.mk (br.trans ez (br.oY hg g) (Kd.uD lK.out));have dA:=ah.mk (ho);clear dx;clear HB;clear HK;clear lK;have dx:=bL;have HB:=bS;have HK:=cG;have U6:=dA;clear bL bS cG dA;clear ho hb hg hat))
           repeat (go_quiet (first|((with_reducible refine kS (b:= .append) (xs:=#[.tmp 77,.tmp 79]) rfl ?_);at_builtin;refine Kd.qx (Kd.int .u8) w.heap.size rfl (.tmp 77) (.tmp 79) 23 5 (.int .u8 0) 1 rfl Tryz.underlying23 GH rfl bG aq u6 mX (bt bw aT) [.int .u8 (bt bw aT)] (fun _ =>True) (fun _ =>False) rfl sA ?aP (fun _ hk=>hk.elim) ?aF ?aO (Below.refl _ _) ?aS ?aL ?_;(case aP=>exact rfl);(case aF=>exact (fun _ _ =>trivial));(case aO=>exact NR);(case aS=>exact (oI (w:=w) (g:=g) (row:=none) ez));(case aL=>have:=U4.out;omega);intro adq Fa ho hb hg hat;rw [← U5.out] at ho;have bL:=ah.mk (ay.grown gU hg (ay.own_ne dx.out lK.out bG));have bS:=ah.mk (bR gT HL.out hb);have cG:=ah.mk (br.trans ez (br.oY hg g) (Kd.uD lK.out));have dA:=ah.mk (ho);clear dx;clear HB;clear HK;clear lK;have dx:=bL;have HB:=bS;have HK:=cG;have U6:=dA;clear bL bS cG dA;clear ho hb hg hat));try go_wp2_with (first|((with_reducible refine kS (b:= .append) (xs:=#[.tmp 77,.tmp 79]) rfl ?_);at_builtin;refine Kd.qx (Kd.int .u8) w.heap.size rfl (.tmp 77) (.tmp 79) 23 5 (.int .u8 0) 1 rfl Tryz.underlying23 GH rfl bG aq u6 mX (bt bw aT) [.int .u8 (bt bw aT)] (fun _ =>True) (fun _ =>False) rfl sA ?aP (fun _ hk=>hk.elim) ?aF ?aO (Below.refl _ _) ?aS ?aL ?_;(case aP=>exact rfl);(case aF=>exact (fun _ _ =>trivial));(case aO=>exact NR);(case aS=>exact (oI (w:=w) (g:=g) (row:=none) ez));(case aL=>have:=U4.out;omega);intro adq Fa ho hb hg hat;rw [← U5.out] at ho;have bL:=ah.mk (ay.grown gU hg (ay.own_ne dx.out lK.out bG));have bS:=ah.mk (bR gT HL.out hb);have cG:=ah.mk (br.trans ez (br.oY hg g) (Kd.uD lK.out));have dA:=ah.mk (ho);clear dx;clear HB;clear HK;clear lK;have dx:=bL;have HB:=bS;have HK:=cG;have U6:=dA;clear bL bS cG dA;clear ho hb hg hat)))
           go_roundg k1
           case measure=>have:=uz.out;omega
           case rel=>exact ⟨(ado),(bw),(wrap64 (aT + 1)),H',⟨kX⟩,⟨by (with_reducible repeat (first|apply Kd.iD|apply Kd.iL|apply Kd.jT));exact U6.out⟩,⟨gU⟩,⟨ez⟩,⟨gT⟩⟩
          ·rw [if_neg Ol] at H
           exact absurd H aV
     ·rw [if_neg c6] at H
      exact absurd H aV
    ·rw [if_neg c5] at H
     have tR:decide (aT < (bw.size:Int))=false:=decide_eq_false c5
     clear c5
     simp only [Option.some.injEq,Prod.mk.injEq] at H
     obtain ⟨rfl,rfl,rfl,rfl⟩:=H
     obtain ⟨Mh,adr⟩:=dx.out
     have Rn:=dI Mh
     have Ro:=dB Mh
     have Rp:=aa Mh 0
     have Rq:=aa Mh 1
     clear Mh adr
     go_wp2
     repeat (go_quiet (fail);try go_wp2)
     go_ret2
     exact ⟨cO,gU,gT,ez⟩
 ·replace c3:=Bool.eq_false_iff.mpr c3
  subst c3
  have H1:((aH.f k t164 t165 46).bind fun jV=>(if 0≤t165 then (if t165≤jV.2.2 then (if jV.2.2≤(jV.2.1.size:Int) then (some (jV.2.1.extract (t165:Int).toNat (jV.2.2:Int).toNat,jV.1,jV.2.1,jV.2.2)) else (none)) else (none)) else (none)))=some (r1,r2,r3,r4):=by rw [if_neg (show ¬ (false=true) by decide)] at H;exact H
  clear H
  have H:=H1
  clear H1
  replace H:=Option.bind_eq_some_iff.mp H
  obtain ⟨⟨t166,t167,t168⟩,Mi,H⟩:=H
  replace H:(if 0≤t165 then (if t165≤t168 then (if t168≤(t167.size:Int) then (some (t167.extract (t165:Int).toNat (t168:Int).toNat,t166,t167,t168)) else (none)) else (none)) else (none))=some (r1,r2,r3,r4):=H
  have ZR:=ah.mk Mi
  clear Mi
  by_cases WG: 0≤t165
  ·rw [if_pos WG] at H
   have ajR:=eq_true WG
   have ajS:decide (0≤t165)=true:=decide_eq_true WG
   clear WG
   by_cases c36:t165≤t168
   ·rw [if_pos c36] at H
    have ajT:=eq_true c36
    have ajU:decide (t165≤t168)=true:=decide_eq_true c36
    clear c36
    by_cases c37:t168≤(t167.size:Int)
    ·rw [if_pos c37] at H
     have adt:=eq_true c37
     have adu:decide (t168≤(t167.size:Int))=true:=decide_eq_true c37
     clear c37
     simp only [Option.some.injEq,Prod.mk.injEq] at H
     obtain ⟨rfl,rfl,rfl,rfl⟩:=H
     go_enter Tryz.func123,Tryz.ntmps123
     go_wp2_with (first|(go_at_call 56;(with_reducible refine (bf.calls g eP cK 34 false t164 t165 w0 _ ?aW ?bY A2.out).mono ?_);(case aW=>repeat (first|(with_reducible first|exact dx.out|apply ay.alloc|apply ay.drewN|apply ay.drew|apply ay.fH|apply ay.fD)|exact dx.out));(case bY=>repeat (first|(with_reducible first|exact HB.out|apply aG|apply aM|apply bn|refine bh ?_ (ay.ge dx.out))|exact HB.out));rintro e SP ⟨rfl,hi,hb,hk⟩;have bL:=ah.mk (br.trans ez hk (.inl rfl));have bS:=ah.mk (hb);have cG:=ah.mk (hi);clear HK;clear HB;clear dx;have HK:=bL;have HB:=bS;have dx:=cG;clear bL bS cG;(try clear hb);(try clear hb2);(try clear hk);(try clear hi);obtain ⟨qQ,Mj⟩:=dx.out;have Ea:=dI qQ;have Eb:=dB qQ;have Ec:=aa qQ 0;have Ed:=aa qQ 1;clear qQ Mj)|(go_at_call 67;(with_reducible refine (aH.calls k g t164 t165 46 t166 t167 t168 w0 _ ?aW ?bY ZR.out).mono ?_);(case aW=>repeat (first|(with_reducible first|exact dx.out|apply ay.alloc|apply ay.drewN|apply ay.drew|apply ay.fH|apply ay.fD)|exact dx.out));(case bY=>repeat (first|(with_reducible first|exact HB.out|apply aG|apply aM|apply bn|refine bh ?_ (ay.ge dx.out))|exact HB.out));rintro e w40 ⟨rfl,hi,hb,hk⟩;have bL:=ah.mk (br.trans ez hk (.inl rfl));have bS:=ah.mk (hb);have cG:=ah.mk (hi);clear HK;clear HB;clear dx;have HK:=bL;have HB:=bS;have dx:=cG;clear bL bS cG;(try clear hb);(try clear hb2);(try clear hk);(try clear hi);obtain ⟨qR,Mk⟩:=dx.out;have Rs:=dI qR;have Rt:=dB qR;have Ru:=aa qR 0;have Rv:=aa qR 1;clear qR Mk))
     repeat (go_quiet (first|(go_at_call 56;(with_reducible refine (bf.calls g eP cK 34 false t164 t165 w0 _ ?aW ?bY A2.out).mono ?_);(case aW=>repeat (first|(with_reducible first|exact dx.out|apply ay.alloc|apply ay.drewN|apply ay.drew|apply ay.fH|apply ay.fD)|exact dx.out));(case bY=>repeat (first|(with_reducible first|exact HB.out|apply aG|apply aM|apply bn|refine bh ?_ (ay.ge dx.out))|exact HB.out));rintro e SP ⟨rfl,hi,hb,hk⟩;have bL:=ah.mk (br.trans ez hk (.inl rfl));have bS:=ah.mk (hb);have cG:=ah.mk (hi);clear HK;clear HB;clear dx;have HK:=bL;have HB:=bS;have dx:=cG;clear bL bS cG;(try clear hb);(try clear hb2);(try clear hk);(try clear hi);obtain ⟨qQ,Mj⟩:=dx.out;have Ea:=dI qQ;have Eb:=dB qQ;have Ec:=aa qQ 0;have Ed:=aa qQ 1;clear qQ Mj)|(go_at_call 67;(with_reducible refine (aH.calls k g t164 t165 46 t166 t167 t168 w0 _ ?aW ?bY ZR.out).mono ?_);(case aW=>repeat (first|(with_reducible first|exact dx.out|apply ay.alloc|apply ay.drewN|apply ay.drew|apply ay.fH|apply ay.fD)|exact dx.out));(case bY=>repeat (first|(with_reducible first|exact HB.out|apply aG|apply aM|apply bn|refine bh ?_ (ay.ge dx.out))|exact HB.out));rintro e w40 ⟨rfl,hi,hb,hk⟩;have bL:=ah.mk (br.trans ez hk (.inl rfl));have bS:=ah.mk (hb);have cG:=ah.mk (hi);clear HK;clear HB;clear dx;have HK:=bL;have HB:=bS;have dx:=cG;clear bL bS cG;(try clear hb);(try clear hb2);(try clear hk);(try clear hi);obtain ⟨qR,Mk⟩:=dx.out;have Rs:=dI qR;have Rt:=dB qR;have Ru:=aa qR 0;have Rv:=aa qR 1;clear qR Mk));try go_wp2_with (first|(go_at_call 56;(with_reducible refine (bf.calls g eP cK 34 false t164 t165 w0 _ ?aW ?bY A2.out).mono ?_);(case aW=>repeat (first|(with_reducible first|exact dx.out|apply ay.alloc|apply ay.drewN|apply ay.drew|apply ay.fH|apply ay.fD)|exact dx.out));(case bY=>repeat (first|(with_reducible first|exact HB.out|apply aG|apply aM|apply bn|refine bh ?_ (ay.ge dx.out))|exact HB.out));rintro e SP ⟨rfl,hi,hb,hk⟩;have bL:=ah.mk (br.trans ez hk (.inl rfl));have bS:=ah.mk (hb);have cG:=ah.mk (hi);clear HK;clear HB;clear dx;have HK:=bL;have HB:=bS;have dx:=cG;clear bL bS cG;(try clear hb);(try clear hb2);(try clear hk);(try clear hi);obtain ⟨qQ,Mj⟩:=dx.out;have Ea:=dI qQ;have Eb:=dB qQ;have Ec:=aa qQ 0;have Ed:=aa qQ 1;clear qQ Mj)|(go_at_call 67;(with_reducible refine (aH.calls k g t164 t165 46 t166 t167 t168 w0 _ ?aW ?bY ZR.out).mono ?_);(case aW=>repeat (first|(with_reducible first|exact dx.out|apply ay.alloc|apply ay.drewN|apply ay.drew|apply ay.fH|apply ay.fD)|exact dx.out));(case bY=>repeat (first|(with_reducible first|exact HB.out|apply aG|apply aM|apply bn|refine bh ?_ (ay.ge dx.out))|exact HB.out));rintro e w40 ⟨rfl,hi,hb,hk⟩;have bL:=ah.mk (br.trans ez hk (.inl rfl));have bS:=ah.mk (hb);have cG:=ah.mk (hi);clear HK;clear HB;clear dx;have HK:=bL;have HB:=bS;have dx:=cG;clear bL bS cG;(try clear hb);(try clear hb2);(try clear hk);(try clear hi);obtain ⟨qR,Mk⟩:=dx.out;have Rs:=dI qR;have Rt:=dB qR;have Ru:=aa qR 0;have Rv:=aa qR 1;clear qR Mk)))
     go_ret2
     exact ⟨cO,gU,gT,ez⟩
    ·rw [if_neg c37] at H
     exact absurd H aV
   ·rw [if_neg c36] at H
    exact absurd H aV
  ·rw [if_neg WG] at H
   exact absurd H aV
def fZ.f (a0:Int):Option (Bool):=some (a0 != 93)
theorem fZ.calls (a0:Int) (r:Bool) (w:World) (h:fZ.f a0=some r):
 Calls Tryz.prog 124 #[.int .u8 a0] w fun e w'=>e= .returned (.bool r)∧jr w w':=by
 have H:(some (a0 != 93))=some r:=h
 clear h
 obtain rfl:=Option.some.inj H
 go_enter Tryz.func124,Tryz.ntmps124
 go_wp2
 go_ret
 exact ⟨dG,ke⟩
def aJ.l0:Nat→Int→ByteArray→Int→Option (ByteArray×Bool×ByteArray×Int)
 | 0,_,_,_ =>none
 |k + 1,x6,gM,fM=>if fM < (gM.size:Int) then (if 0≤fM then ((fZ.f (bt gM fM)).bind fun t178=>(if t178=true then (aJ.l0 k x6 gM (wrap64 (fM + 1))) else (if 0≤x6 then (if x6≤fM then (if fM≤(gM.size:Int) then (some (gM.extract (x6:Int).toNat (fM:Int).toNat,decide (fM > x6),gM,fM)) else (none)) else (none)) else (none)))) else (none)) else (if 0≤x6 then (if x6≤fM then (if fM≤(gM.size:Int) then (some (gM.extract (x6:Int).toNat (fM:Int).toNat,decide (fM > x6),gM,fM)) else (none)) else (none)) else (none))
def aJ.f (k:Nat) (eP:ByteArray) (cK:Int):Option (ByteArray×Bool×ByteArray×Int):=aJ.l0 k cK eP cK
theorem aJ.fJ:∀ k,(∀ y0 y1 y2,cH (aJ.l0 k y0 y1 y2) (aJ.l0 (k + 1) y0 y1 y2))
 | 0=>fun _ _ _ r h=>by simp [aJ.l0] at h
 |k + 1=>by
  have nP:=aJ.fJ k
  ·intro y0 y1 y2
   unfold aJ.l0
   repeat' first
   |(with_reducible exact nP _ _ _)
   |(with_reducible exact cH.refl _)
   |(with_reducible exact cH.none _)
   |(with_reducible refine cH.ite ?_ ?_)
   |(with_reducible refine cH.bind ?_ (fun _ =>?_))
   |refine cH.ite ?_ ?_
   |refine cH.bind ?_ (fun _ =>?_)
theorem aJ.mono:∀ a0 a1 k,cH (aJ.f k a0 a1) (aJ.f (k + 1) a0 a1):=by
 intro a0 a1 k
 have nP:=aJ.fJ k
 unfold aJ.f
 repeat' first
  |(with_reducible exact nP _ _ _)
  |(with_reducible exact cH.refl _)
  |(with_reducible exact cH.none _)
  |(with_reducible refine cH.ite ?_ ?_)
  |(with_reducible refine cH.bind ?_ (fun _ =>?_))
  |refine cH.ite ?_ ?_
  |refine cH.bind ?_ (fun _ =>?_)
theorem aJ.calls (k:Nat) (g:Nat) (eP:ByteArray) (cK:Int) (r1:ByteArray) (r2:Bool) (r3:ByteArray) (r4:Int) (w0 w:World) (hI:ay w0 w g eP cK) (hB:Below w0.heap.size w0 w) (h:aJ.f k eP cK=some (r1,r2,r3,r4)):
 Calls Tryz.prog 119 #[.pointer (some ⟨g,0,none⟩),.func (.func 124) #[] #[]] w fun e w'=>e= .returned (.tuple #[.string r1,.bool r2])∧ay w0 w' g r3 r4∧Below w0.heap.size w0 w'∧br w w' g none:=by
 have dx:=ah.mk hI
 have HK:=ah.mk (br.refl w g none)
 have HL:=ah.mk hB.size
 clear hI
 have TQ:=ah.mk hB.size
 have HB:=ah.mk hB
 clear hB
 have H:(aJ.l0 k cK eP cK)=some (r1,r2,r3,r4):=h
 clear h
 have H':=ah.mk H
 clear H
 obtain ⟨wP,UE⟩:=dx.out
 have tS:=dI wP
 have tT:=dB wP
 have tU:=aa wP 0
 have tV:=aa wP 1
 clear wP UE
 go_enter Tryz.func119,Tryz.ntmps119
 go_wp2
 repeat (go_quiet (fail);try go_wp2)
 go_loopg [] k (fun kq w'=>∃ (bw:ByteArray) (aT:Int),ah (aJ.l0 kq cK bw aT=some (r1,r2,r3,r4))∧ah (kq≤k)∧ah (ay w0 w' g bw aT)∧ah (br w w' g none)∧ah (Below w0.heap.size w0 w'))
 case atStart=>exact ⟨(eP),(cK),H',⟨Nat.le_refl _⟩,⟨gU⟩,⟨ez⟩,⟨gT⟩⟩
 case round=>
  clear H'
  try clear c1
  try clear p2
  try clear tS
  try clear tT
  try clear tU
  try clear tV
  obtain ⟨bw,aT,HA,uz,dx,HK,HB⟩:=hrel
  cases gk with
  |zero=>exact absurd HA.out (by simp [aJ.l0])
  |succ k1=>
   have H:=HA.out
   clear HA
   simp only [aJ.l0] at H
   by_cases c4:aT < (bw.size:Int)
   ·rw [if_pos c4] at H
    have oC:decide (aT < (bw.size:Int))=true:=decide_eq_true c4
    clear c4
    by_cases c5: 0≤aT
    ·rw [if_pos c5] at H
     have tR:decide (0≤aT)=true:=decide_eq_true c5
     clear c5
     replace H:=Option.bind_eq_some_iff.mp H
     obtain ⟨t178,GJ,H⟩:=H
     replace H:(if t178=true then (aJ.l0 k1 cK bw (wrap64 (aT + 1))) else (if 0≤cK then (if cK≤aT then (if aT≤(bw.size:Int) then (some (bw.extract (cK:Int).toNat (aT:Int).toNat,decide (aT > cK),bw,aT)) else (none)) else (none)) else (none)))=some (r1,r2,r3,r4):=H
     have A7:=ah.mk GJ
     clear GJ
     by_cases c8:t178=true
     ·subst c8
      have H1:(aJ.l0 k1 cK bw (wrap64 (aT + 1)))=some (r1,r2,r3,r4):=by rw [if_pos rfl] at H;exact H
      clear H
      have H:=H1
      clear H1
      have H':=ah.mk H
      clear H
      obtain ⟨oZ,IB⟩:=dx.out
      have pX:=dI oZ
      have pY:=dB oZ
      have pZ:=aa oZ 0
      have p8:=aa oZ 1
      clear oZ IB
      have p6: 0≤(aT:Int):=of_decide_eq_true cL
      have q6:aT < (bw.size:Int):=of_decide_eq_true cL
      have hx6:=gI bw aT
      replace p6:=eq_true p6
      replace q6:=eq_true q6
      go_wp2_with (first|(go_at_call 124;(with_reducible refine (fZ.calls (bt bw aT) true _ A7.out).mono ?_);rintro e w' ⟨rfl,⟨nd,rfl⟩⟩;(try first|exact ⟨rfl,_,World.drewN_drewN _ _ _⟩|exact ⟨rfl,_,Eq.trans (World.drewN_drewN _ _ _) (congrArg (World.drewN _) (Nat.add_assoc _ _ _))⟩)))
      repeat (go_quiet (first|(go_at_call 124;(with_reducible refine (fZ.calls (bt bw aT) true _ A7.out).mono ?_);rintro e w' ⟨rfl,⟨nd,rfl⟩⟩;(try first|exact ⟨rfl,_,World.drewN_drewN _ _ _⟩|exact ⟨rfl,_,Eq.trans (World.drewN_drewN _ _ _) (congrArg (World.drewN _) (Nat.add_assoc _ _ _))⟩)));try go_wp2_with (first|(go_at_call 124;(with_reducible refine (fZ.calls (bt bw aT) true _ A7.out).mono ?_);rintro e w' ⟨rfl,⟨nd,rfl⟩⟩;(try first|exact ⟨rfl,_,World.drewN_drewN _ _ _⟩|exact ⟨rfl,_,Eq.trans (World.drewN_drewN _ _ _) (congrArg (World.drewN _) (Nat.add_assoc _ _ _))⟩))))
      go_roundg k1
      case measure=>have:=uz.out;omega
      case rel=>exact ⟨(bw),(wrap64 (aT + 1)),H',⟨kX⟩,⟨gU⟩,⟨ez⟩,⟨gT⟩⟩
     ·replace c8:=Bool.eq_false_iff.mpr c8
      subst c8
      have H1:(if 0≤cK then (if cK≤aT then (if aT≤(bw.size:Int) then (some (bw.extract (cK:Int).toNat (aT:Int).toNat,decide (aT > cK),bw,aT)) else (none)) else (none)) else (none))=some (r1,r2,r3,r4):=by rw [if_neg (show ¬ (false=true) by decide)] at H;exact H
      clear H
      have H:=H1
      clear H1
      by_cases c10: 0≤cK
      ·rw [if_pos c10] at H
       have qy:=eq_true c10
       have CD:decide (0≤cK)=true:=decide_eq_true c10
       clear c10
       by_cases c11:cK≤aT
       ·rw [if_pos c11] at H
        have zg:=eq_true c11
        have LH:decide (cK≤aT)=true:=decide_eq_true c11
        clear c11
        by_cases c12:aT≤(bw.size:Int)
        ·rw [if_pos c12] at H
         have wQ:=eq_true c12
         have CE:decide (aT≤(bw.size:Int))=true:=decide_eq_true c12
         clear c12
         simp only [Option.some.injEq,Prod.mk.injEq] at H
         obtain ⟨rfl,rfl,rfl,rfl⟩:=H
         obtain ⟨qz,LI⟩:=dx.out
         have qi:=dI qz
         have qj:=dB qz
         have qm:=aa qz 0
         have qo:=aa qz 1
         clear qz LI
         have p6: 0≤(aT:Int):=of_decide_eq_true cL
         have q6:aT < (bw.size:Int):=of_decide_eq_true cL
         have hx6:=gI bw aT
         replace p6:=eq_true p6
         replace q6:=eq_true q6
         go_wp2_with (first|(go_at_call 124;(with_reducible refine (fZ.calls (bt bw aT) false _ A7.out).mono ?_);rintro e w' ⟨rfl,⟨nd,rfl⟩⟩;(try first|exact ⟨rfl,_,World.drewN_drewN _ _ _⟩|exact ⟨rfl,_,Eq.trans (World.drewN_drewN _ _ _) (congrArg (World.drewN _) (Nat.add_assoc _ _ _))⟩)))
         repeat (go_quiet (first|(go_at_call 124;(with_reducible refine (fZ.calls (bt bw aT) false _ A7.out).mono ?_);rintro e w' ⟨rfl,⟨nd,rfl⟩⟩;(try first|exact ⟨rfl,_,World.drewN_drewN _ _ _⟩|exact ⟨rfl,_,Eq.trans (World.drewN_drewN _ _ _) (congrArg (World.drewN _) (Nat.add_assoc _ _ _))⟩)));try go_wp2_with (first|(go_at_call 124;(with_reducible refine (fZ.calls (bt bw aT) false _ A7.out).mono ?_);rintro e w' ⟨rfl,⟨nd,rfl⟩⟩;(try first|exact ⟨rfl,_,World.drewN_drewN _ _ _⟩|exact ⟨rfl,_,Eq.trans (World.drewN_drewN _ _ _) (congrArg (World.drewN _) (Nat.add_assoc _ _ _))⟩))))
         go_ret2
         exact ⟨cO,gU,gT,ez⟩
        ·rw [if_neg c12] at H
         exact absurd H aV
       ·rw [if_neg c11] at H
        exact absurd H aV
      ·rw [if_neg c10] at H
       exact absurd H aV
    ·rw [if_neg c5] at H
     exact absurd H aV
   ·rw [if_neg c4] at H
    have oC:decide (aT < (bw.size:Int))=false:=decide_eq_false c4
    clear c4
    by_cases c14: 0≤cK
    ·rw [if_pos c14] at H
     have LJ:=eq_true c14
     have LK:decide (0≤cK)=true:=decide_eq_true c14
     clear c14
     by_cases c15:cK≤aT
     ·rw [if_pos c15] at H
      have E0:=eq_true c15
      have Qg:decide (cK≤aT)=true:=decide_eq_true c15
      clear c15
      by_cases c16:aT≤(bw.size:Int)
      ·rw [if_pos c16] at H
       have ZA:=eq_true c16
       have ZB:decide (aT≤(bw.size:Int))=true:=decide_eq_true c16
       clear c16
       simp only [Option.some.injEq,Prod.mk.injEq] at H
       obtain ⟨rfl,rfl,rfl,rfl⟩:=H
       obtain ⟨qA,LL⟩:=dx.out
       have sH:=dI qA
       have sI:=dB qA
       have sJ:=aa qA 0
       have sK:=aa qA 1
       clear qA LL
       go_wp2
       repeat (go_quiet (fail);try go_wp2)
       go_ret2
       exact ⟨cO,gU,gT,ez⟩
      ·rw [if_neg c16] at H
       exact absurd H aV
     ·rw [if_neg c15] at H
      exact absurd H aV
    ·rw [if_neg c14] at H
     exact absurd H aV
end Go.Proofs.YtokpnfljjjjikaaGreatDoor.nK
