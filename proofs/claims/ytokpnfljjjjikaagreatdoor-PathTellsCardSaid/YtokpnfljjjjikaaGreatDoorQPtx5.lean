import Derived.Test.YtokpnfljjjjikaaGreatDoorQPtx4
set_option maxHeartbeats 8000000
set_option maxRecDepth 100000
namespace Go.Proofs.YtokpnfljjjjikaaGreatDoor.mY
open Go.RowKit Go.Proofs.YtokpnfljjjjikaaGreatDoor.qP Go.Proofs.aj.bO Go.Proofs.aj.fA Go.Proofs.aj.cK
attribute [local go_sem] ia ig iU iV gf gh ij iq
set_option linter.unusedVariables false
set_option linter.unusedSimpArgs false
def cu.l0:Nat→List Int→ByteArray→Int→Option (ByteArray×Bool×ByteArray×Int)
 | 0,_,_,_ =>none
 |k + 1,x6,iJ,fY=>if fY < (iJ.size:Int) then (if 0≤fY then (if (bt iJ fY)=34 then (some (strOfNums x6,true,iJ,wrap64 (fY + 1))) else (if (bt iJ fY)=92 then ((dD.f iJ (wrap64 (fY + 1))).bind fun AL=>(if AL.1 < 32 then (some ((⟨#[]⟩:ByteArray),false,AL.2.1,wrap64 (AL.2.2 + 1))) else (if AL.1 > 126 then (some ((⟨#[]⟩:ByteArray),false,AL.2.1,wrap64 (AL.2.2 + 1))) else (if x6.length < 140737488355328 then (cu.l0 k (x6 ++ [AL.1]) AL.2.1 (wrap64 (AL.2.2 + 1))) else (none))))) else (if (bt iJ fY) < 32 then (some ((⟨#[]⟩:ByteArray),false,iJ,wrap64 (fY + 1))) else (if (bt iJ fY) > 126 then (some ((⟨#[]⟩:ByteArray),false,iJ,wrap64 (fY + 1))) else (if x6.length < 140737488355328 then (cu.l0 k (x6 ++ [bt iJ fY]) iJ (wrap64 (fY + 1))) else (none)))))) else (none)) else (some ((⟨#[]⟩:ByteArray),false,iJ,fY))
def cu.f (k:Nat) (fB:ByteArray) (eA:Int):Option (ByteArray×Bool×ByteArray×Int):=(bV.f fB eA 34).bind fun qW=>(if qW.1=true then (cu.l0 k ([]:List Int) qW.2.1 qW.2.2) else ((aW.f k qW.2.1 qW.2.2 46).bind fun qX=>(if 0≤qW.2.2 then (if qW.2.2≤qX.2.2 then (if qX.2.2≤(qX.2.1.size:Int) then (some (qX.2.1.extract (qW.2.2:Int).toNat (qX.2.2:Int).toNat,qX.1,qX.2.1,qX.2.2)) else (none)) else (none)) else (none))))
theorem cu.dF:∀ k,(∀ y0 y1 y2,bL (cu.l0 k y0 y1 y2) (cu.l0 (k + 1) y0 y1 y2))
 | 0=>fun _ _ _ r h=>by simp [cu.l0] at h
 |k + 1=>by
  have fV:=cu.dF k
  ·intro y0 y1 y2
   unfold cu.l0
   repeat' first
   |(with_reducible first|exact fV _ _ _|exact aW.mono _ _ _ _|exact bL.refl _|exact bL.none _|refine bL.ite ?_ ?_|refine bL.bind ?_ (fun _ =>?_))
   |exact fV _ _ _
   |exact aW.mono _ _ _ _
   |exact bL.none _
   |refine bL.ite ?_ ?_
   |refine bL.bind ?_ (fun _ =>?_)
theorem cu.mono:∀ a0 a1 k,bL (cu.f k a0 a1) (cu.f (k + 1) a0 a1):=by
 intro a0 a1 k
 have fV:=cu.dF k
 unfold cu.f
 repeat' first
  |(with_reducible first|exact fV _ _ _|exact aW.mono _ _ _ _|exact bL.refl _|exact bL.none _|refine bL.ite ?_ ?_|refine bL.bind ?_ (fun _ =>?_))
  |exact fV _ _ _
  |exact aW.mono _ _ _ _
  |exact bL.none _
  |refine bL.ite ?_ ?_
  |refine bL.bind ?_ (fun _ =>?_)
theorem cu.calls (k:Nat) (g:Nat) (fB:ByteArray) (eA:Int) (r1:ByteArray) (r2:Bool) (r3:ByteArray) (r4:Int) (w0 w:World) (hI:aD w0 w g fB eA) (hB:Below w0.heap.size w0 w) (h:cu.f k fB eA=some (r1,r2,r3,r4)):
 Calls Tryz.prog 123 #[.pointer (some ⟨g,0,none⟩)] w fun e w'=>e= .returned (.tuple #[.string r1,.bool r2])∧aD w0 w' g r3 r4∧Below w0.heap.size w0 w'∧bM w w' g none:=by
 have eW:=aa.mk hI
 have HK:=aa.mk (bM.refl w g none)
 have HL:=aa.mk hB.size
 clear hI
 have UI:=aa.mk hB.size
 have HB:=aa.mk hB
 clear hB
 have H:((bV.f fB eA 34).bind fun qW=>(if qW.1=true then (cu.l0 k ([]:List Int) qW.2.1 qW.2.2) else ((aW.f k qW.2.1 qW.2.2 46).bind fun qX=>(if 0≤qW.2.2 then (if qW.2.2≤qX.2.2 then (if qX.2.2≤(qX.2.1.size:Int) then (some (qX.2.1.extract (qW.2.2:Int).toNat (qX.2.2:Int).toNat,qX.1,qX.2.1,qX.2.2)) else (none)) else (none)) else (none)))))=some (r1,r2,r3,r4):=h
 clear h
 obtain ⟨⟨t147,t148,t149⟩,A2,H⟩:=bd_ H
 (try dsimp only at H)
 by_cases c3:t147=true
 ·subst c3
  rw [if_pos rfl] at H
  have H':=aa.mk H
  clear H
  go_enter Tryz.func123,Tryz.ntmps123
  go_wp2_with (first|(go_at_call 56;(with_reducible refine (bV.calls g fB eA 34 true t148 t149 w0 _ ?aT ?cw A2.out).mono ?_);(case aT=>repeat (first|(with_reducible first|exact eW.out|apply aD.alloc|apply aD.drewN|apply aD.drew|apply aD.gm|apply aD.gi)|exact eW.out));(case cw=>repeat (first|(with_reducible first|exact HB.out|apply aV|apply aN|apply bf|refine aZ ?_ (aD.ge eW.out))|exact HB.out));rintro e w4 ⟨rfl,hi,hb,hk⟩;replace HK:=aa.mk (bM.trans fo hk (.inl rfl));replace HB:=aa.mk (hb);replace eW:=aa.mk (hi);(try clear hb);(try clear hk);(try clear hi)))
  repeat (go_quiet (fail);try go_wp2_with (first|(go_at_call 56;(with_reducible refine (bV.calls g fB eA 34 true t148 t149 w0 _ ?aT ?cw A2.out).mono ?_);(case aT=>repeat (first|(with_reducible first|exact eW.out|apply aD.alloc|apply aD.drewN|apply aD.drew|apply aD.gm|apply aD.gi)|exact eW.out));(case cw=>repeat (first|(with_reducible first|exact HB.out|apply aV|apply aN|apply bf|refine aZ ?_ (aD.ge eW.out))|exact HB.out));rintro e w4 ⟨rfl,hi,hb,hk⟩;replace HK:=aa.mk (bM.trans fo hk (.inl rfl));replace HB:=aa.mk (hb);replace eW:=aa.mk (hi);(try clear hb);(try clear hk);(try clear hi))))
  go_loopg [6] k (fun kq v6 w'=>∃ (G3:List Int) (cm:ByteArray) (bW:Int),aa (cu.l0 kq G3 cm bW=some (r1,r2,r3,r4))∧aa (kq≤k)∧aa (Kd.R (Kd.int .u8) 5 w' w.heap.size (fun _ =>True) v6 G3)∧aa (aD w0 w' g cm bW)∧aa (bM w w' g none)∧aa (Below w0.heap.size w0 w'))
  case atStart=>exact ⟨(([]:List Int)),(t148),(t149),H',⟨Nat.le_refl _⟩,⟨mN⟩,⟨gz⟩,⟨fo⟩,⟨gy⟩⟩
  case round=>
   clear H'
   obtain ⟨G3,cm,bW,HA,p9,nJ,eW,HK,HB⟩:=hrel
   cases gk with
   |zero=>exact absurd HA.out (by simp [cu.l0])
   |succ k1=>
    have H:=HA.out
    clear HA
    simp only [cu.l0] at H
    by_cases c5:bW < (cm.size:Int)
    ·rw [if_pos c5] at H
     have lF:=decide_eq_true c5
     clear c5
     obtain ⟨c6,H⟩:=iA H
     have nL:=decide_eq_true c6
     clear c6
     by_cases c8:(bt cm bW)=34
     ·rw [if_pos c8] at H
      have rK:=beq_iff_eq.mpr c8
      have Fg:=bne_eq_false_iff_eq.mpr c8
      clear c8
      simp only [Option.some.injEq,Prod.mk.injEq] at H
      obtain ⟨rfl,rfl,rfl,rfl⟩:=H
      obtain ⟨pQ,Ju⟩:=eW.out
      have rG:=dU pQ
      have rH:=dP pQ
      have rI:=af pQ 0
      have rJ:=af pQ 1
      clear pQ Ju
      have p7: 0≤(bW:Int):=of_decide_eq_true bp
      have q7:bW < (cm.size:Int):=of_decide_eq_true bp
      have AO:=dA cm bW
      replace p7:=eq_true p7
      replace q7:=eq_true q7
      have arL:∀ n_:Nat,Sem.run Tryz.prog (convert 23 9 u6) ((wr.drewN n_).setCell ⟨g,1,none⟩ (.int .i64 (wrap64 (bW + 1))))= .ok (.string (strOfNums G3)) ((wr.drewN n_).setCell ⟨g,1,none⟩ (.int .i64 (wrap64 (bW + 1)))):=fun n_ =>uV (P:=Tryz.prog) Tryz.underlying23 Tryz.underlying5 Tryz.underlying9 (Kd.Ay zm)
      go_wp2
      repeat (go_quiet (fail);try go_wp2)
      go_ret2
      exact ⟨cH,gz,gy,fo⟩
     ·rw [if_neg c8] at H
      have rK:=beq_eq_false_iff_ne.mpr c8
      have Fg:=bne_iff_ne.mpr c8
      by_cases c11:(bt cm bW)=92
      ·rw [if_pos c11] at H
       have oC:=beq_iff_eq.mpr c11
       have wM:=bne_eq_false_iff_eq.mpr c11
       clear c11
       obtain ⟨⟨t153,t154,t155⟩,G1,H⟩:=bd_ H
       (try dsimp only at H)
       by_cases c13:t153 < 32
       ·rw [if_pos c13] at H
        have vW:=decide_eq_true c13
        clear c13
        simp only [Option.some.injEq,Prod.mk.injEq] at H
        obtain ⟨rfl,rfl,rfl,rfl⟩:=H
        obtain ⟨LU,afE⟩:=eW.out
        have AP:=dU LU
        have AQ:=dP LU
        have AR:=af LU 0
        have AU:=af LU 1
        clear LU afE
        have p7: 0≤(bW:Int):=of_decide_eq_true bp
        have q7:bW < (cm.size:Int):=of_decide_eq_true bp
        have AO:=dA cm bW
        replace p7:=eq_true p7
        replace q7:=eq_true q7
        go_wp2_with (first|(go_at_call 115;(with_reducible refine (dD.calls g cm (wrap64 (bW + 1)) t153 t154 t155 w0 _ ?aT ?cw G1.out).mono ?_);(case aT=>repeat (first|(with_reducible first|exact eW.out|apply aD.alloc|apply aD.drewN|apply aD.drew|apply aD.gm|apply aD.gi)|exact eW.out));(case cw=>repeat (first|(with_reducible first|exact HB.out|apply aV|apply aN|apply bf|refine aZ ?_ (aD.ge eW.out))|exact HB.out));rintro e QX ⟨rfl,hi,hb,hk⟩;replace nJ:=aa.mk (Kd.fS (Kd.wG (aD.apart (show aD w0 _ g cm (wrap64 (bW + 1)) from by repeat (first|(with_reducible first|exact eW.out|apply aD.alloc|apply aD.drewN|apply aD.drew|apply aD.gm|apply aD.gi)|exact eW.out)) zm bh) hk (fun _ h=>h.2)) (fun _ h=>h.1));replace HK:=aa.mk (bM.trans fo hk (.inl rfl));replace HB:=aa.mk (hb);replace eW:=aa.mk (hi);(try clear hb);(try clear hk);(try clear hi);obtain ⟨wN,Vy⟩:=eW.out;have AV:=dU wN;have AW:=dP wN;have AX:=af wN 0;have AY:=af wN 1;clear wN Vy))
        repeat (go_quiet (fail);try go_wp2_with (first|(go_at_call 115;(with_reducible refine (dD.calls g cm (wrap64 (bW + 1)) t153 t154 t155 w0 _ ?aT ?cw G1.out).mono ?_);(case aT=>repeat (first|(with_reducible first|exact eW.out|apply aD.alloc|apply aD.drewN|apply aD.drew|apply aD.gm|apply aD.gi)|exact eW.out));(case cw=>repeat (first|(with_reducible first|exact HB.out|apply aV|apply aN|apply bf|refine aZ ?_ (aD.ge eW.out))|exact HB.out));rintro e QX ⟨rfl,hi,hb,hk⟩;replace nJ:=aa.mk (Kd.fS (Kd.wG (aD.apart (show aD w0 _ g cm (wrap64 (bW + 1)) from by repeat (first|(with_reducible first|exact eW.out|apply aD.alloc|apply aD.drewN|apply aD.drew|apply aD.gm|apply aD.gi)|exact eW.out)) zm bh) hk (fun _ h=>h.2)) (fun _ h=>h.1));replace HK:=aa.mk (bM.trans fo hk (.inl rfl));replace HB:=aa.mk (hb);replace eW:=aa.mk (hi);(try clear hb);(try clear hk);(try clear hi);obtain ⟨wN,Vy⟩:=eW.out;have AV:=dU wN;have AW:=dP wN;have AX:=af wN 0;have AY:=af wN 1;clear wN Vy)))
        go_ret2
        exact ⟨cH,gz,gy,fo⟩
       ·rw [if_neg c13] at H
        have vW:=decide_eq_false c13
        clear c13
        by_cases c17:t153 > 126
        ·rw [if_pos c17] at H
         have wO:decide (126 < t153)=true:=decide_eq_true c17
         clear c17
         simp only [Option.some.injEq,Prod.mk.injEq] at H
         obtain ⟨rfl,rfl,rfl,rfl⟩:=H
         obtain ⟨LV,afF⟩:=eW.out
         have Jz:=dU LV
         have JA:=dP LV
         have JB:=af LV 0
         have JC:=af LV 1
         clear LV afF
         have p7: 0≤(bW:Int):=of_decide_eq_true bp
         have q7:bW < (cm.size:Int):=of_decide_eq_true bp
         have AO:=dA cm bW
         replace p7:=eq_true p7
         replace q7:=eq_true q7
         go_wp2_with (first|(go_at_call 115;(with_reducible refine (dD.calls g cm (wrap64 (bW + 1)) t153 t154 t155 w0 _ ?aT ?cw G1.out).mono ?_);(case aT=>repeat (first|(with_reducible first|exact eW.out|apply aD.alloc|apply aD.drewN|apply aD.drew|apply aD.gm|apply aD.gi)|exact eW.out));(case cw=>repeat (first|(with_reducible first|exact HB.out|apply aV|apply aN|apply bf|refine aZ ?_ (aD.ge eW.out))|exact HB.out));rintro e w19 ⟨rfl,hi,hb,hk⟩;replace nJ:=aa.mk (Kd.fS (Kd.wG (aD.apart (show aD w0 _ g cm (wrap64 (bW + 1)) from by repeat (first|(with_reducible first|exact eW.out|apply aD.alloc|apply aD.drewN|apply aD.drew|apply aD.gm|apply aD.gi)|exact eW.out)) zm bh) hk (fun _ h=>h.2)) (fun _ h=>h.1));replace HK:=aa.mk (bM.trans fo hk (.inl rfl));replace HB:=aa.mk (hb);replace eW:=aa.mk (hi);(try clear hb);(try clear hk);(try clear hi);obtain ⟨wP,Vz⟩:=eW.out;have Ea:=dU wP;have Eb:=dP wP;have Ec:=af wP 0;have Ed:=af wP 1;clear wP Vz))
         repeat (go_quiet (fail);try go_wp2_with (first|(go_at_call 115;(with_reducible refine (dD.calls g cm (wrap64 (bW + 1)) t153 t154 t155 w0 _ ?aT ?cw G1.out).mono ?_);(case aT=>repeat (first|(with_reducible first|exact eW.out|apply aD.alloc|apply aD.drewN|apply aD.drew|apply aD.gm|apply aD.gi)|exact eW.out));(case cw=>repeat (first|(with_reducible first|exact HB.out|apply aV|apply aN|apply bf|refine aZ ?_ (aD.ge eW.out))|exact HB.out));rintro e w19 ⟨rfl,hi,hb,hk⟩;replace nJ:=aa.mk (Kd.fS (Kd.wG (aD.apart (show aD w0 _ g cm (wrap64 (bW + 1)) from by repeat (first|(with_reducible first|exact eW.out|apply aD.alloc|apply aD.drewN|apply aD.drew|apply aD.gm|apply aD.gi)|exact eW.out)) zm bh) hk (fun _ h=>h.2)) (fun _ h=>h.1));replace HK:=aa.mk (bM.trans fo hk (.inl rfl));replace HB:=aa.mk (hb);replace eW:=aa.mk (hi);(try clear hb);(try clear hk);(try clear hi);obtain ⟨wP,Vz⟩:=eW.out;have Ea:=dU wP;have Eb:=dP wP;have Ec:=af wP 0;have Ed:=af wP 1;clear wP Vz)))
         go_ret2
         exact ⟨cH,gz,gy,fo⟩
        ·rw [if_neg c17] at H
         have wO:decide (126 < t153)=false:=decide_eq_false c17
         clear c17
         obtain ⟨c21,H⟩:=iA H
         have abF:=aa.mk c21
         clear c21
         obtain ⟨afG,LW⟩:∃ y_:List Int,y_=(G3 ++ [t153]):=⟨_,rfl⟩
         replace H:(cu.l0 k1 afG t154 (wrap64 (t155 + 1)))=some (r1,r2,r3,r4):=by first|(rw [LW];with_reducible exact H)|(have uY:=(Option.bind_some _ _).symm.trans H;rw [LW];with_reducible exact uY)|(have uY:=(Option.bind_some _ _).symm.trans H;with_reducible exact uY)|with_reducible exact H|(rw [LW];exact H)|exact H
         have abG:=aa.mk LW
         clear LW
         have H':=aa.mk H
         clear H
         obtain ⟨LX,afH⟩:=eW.out
         have QY:=dU LX
         have QZ:=dP LX
         have Q0:=af LX 0
         have Q3:=af LX 1
         clear LX afH
         have p7: 0≤(bW:Int):=of_decide_eq_true bp
         have q7:bW < (cm.size:Int):=of_decide_eq_true bp
         have AO:=dA cm bW
         replace p7:=eq_true p7
         replace q7:=eq_true q7
         go_wp2_with (first|(go_at_call 115;(with_reducible refine (dD.calls g cm (wrap64 (bW + 1)) t153 t154 t155 w0 _ ?aT ?cw G1.out).mono ?_);(case aT=>repeat (first|(with_reducible first|exact eW.out|apply aD.alloc|apply aD.drewN|apply aD.drew|apply aD.gm|apply aD.gi)|exact eW.out));(case cw=>repeat (first|(with_reducible first|exact HB.out|apply aV|apply aN|apply bf|refine aZ ?_ (aD.ge eW.out))|exact HB.out));rintro e Q4 ⟨rfl,hi,hb,hk⟩;replace nJ:=aa.mk (Kd.fS (Kd.wG (aD.apart (show aD w0 _ g cm (wrap64 (bW + 1)) from by repeat (first|(with_reducible first|exact eW.out|apply aD.alloc|apply aD.drewN|apply aD.drew|apply aD.gm|apply aD.gi)|exact eW.out)) zm bh) hk (fun _ h=>h.2)) (fun _ h=>h.1));replace HK:=aa.mk (bM.trans fo hk (.inl rfl));replace HB:=aa.mk (hb);replace eW:=aa.mk (hi);(try clear hb);(try clear hk);(try clear hi);obtain ⟨wQ,VA⟩:=eW.out;have JD:=dU wQ;have JE:=dP wQ;have JF:=af wQ 0;have JG:=af wQ 1;clear wQ VA)|((with_reducible refine jo (b:= .append) (xs:=#[.tmp 77,.tmp 79]) rfl ?_);at_builtin;refine Kd.mZ (Kd.int .u8) w.heap.size rfl (.tmp 77) (.tmp 79) 23 5 (.int .u8 0) 1 rfl Tryz.underlying23 wH rfl bh ak u6 G3 t153 [.int .u8 t153] (fun _ =>True) (fun _ =>False) rfl Au ?aP (fun _ hk=>hk.elim) ?aF ?aO (Below.refl _ _) ?aS ?aL ?_;(case aP=>exact rfl);(case aF=>exact (fun _ _ =>trivial));(case aO=>exact Qf);(case aS=>exact (rZ (w:=w) (g:=g) (row:=none) fo));(case aL=>have:=abF.out;omega);intro v157 LY ho hb hg hat;rw [← abG.out] at ho;replace HB:=aa.mk (fE gy HL.out hb);replace eW:=aa.mk (aD.grown gz hg (aD.own_ne eW.out nJ.out bh));replace HK:=aa.mk (bM.trans fo (bM.sL hg g) (Kd.Az nJ.out));have abH:=aa.mk (ho);clear nJ;clear ho hb hg hat))
         repeat (go_quiet (fail);try go_wp2_with (first|(go_at_call 115;(with_reducible refine (dD.calls g cm (wrap64 (bW + 1)) t153 t154 t155 w0 _ ?aT ?cw G1.out).mono ?_);(case aT=>repeat (first|(with_reducible first|exact eW.out|apply aD.alloc|apply aD.drewN|apply aD.drew|apply aD.gm|apply aD.gi)|exact eW.out));(case cw=>repeat (first|(with_reducible first|exact HB.out|apply aV|apply aN|apply bf|refine aZ ?_ (aD.ge eW.out))|exact HB.out));rintro e Q4 ⟨rfl,hi,hb,hk⟩;replace nJ:=aa.mk (Kd.fS (Kd.wG (aD.apart (show aD w0 _ g cm (wrap64 (bW + 1)) from by repeat (first|(with_reducible first|exact eW.out|apply aD.alloc|apply aD.drewN|apply aD.drew|apply aD.gm|apply aD.gi)|exact eW.out)) zm bh) hk (fun _ h=>h.2)) (fun _ h=>h.1));replace HK:=aa.mk (bM.trans fo hk (.inl rfl));replace HB:=aa.mk (hb);replace eW:=aa.mk (hi);(try clear hb);(try clear hk);(try clear hi);obtain ⟨wQ,VA⟩:=eW.out;have JD:=dU wQ;have JE:=dP wQ;have JF:=af wQ 0;have JG:=af wQ 1;clear wQ VA)|((with_reducible refine jo (b:= .append) (xs:=#[.tmp 77,.tmp 79]) rfl ?_);at_builtin;refine Kd.mZ (Kd.int .u8) w.heap.size rfl (.tmp 77) (.tmp 79) 23 5 (.int .u8 0) 1 rfl Tryz.underlying23 wH rfl bh ak u6 G3 t153 [.int .u8 t153] (fun _ =>True) (fun _ =>False) rfl Au ?aP (fun _ hk=>hk.elim) ?aF ?aO (Below.refl _ _) ?aS ?aL ?_;(case aP=>exact rfl);(case aF=>exact (fun _ _ =>trivial));(case aO=>exact Qf);(case aS=>exact (rZ (w:=w) (g:=g) (row:=none) fo));(case aL=>have:=abF.out;omega);intro v157 LY ho hb hg hat;rw [← abG.out] at ho;replace HB:=aa.mk (fE gy HL.out hb);replace eW:=aa.mk (aD.grown gz hg (aD.own_ne eW.out nJ.out bh));replace HK:=aa.mk (bM.trans fo (bM.sL hg g) (Kd.Az nJ.out));have abH:=aa.mk (ho);clear nJ;clear ho hb hg hat)))
         go_roundg k1
         case measure=>have:=p9.out;omega
         case rel=>exact ⟨(afG),(t154),(wrap64 (t155 + 1)),H',⟨je⟩,⟨by (with_reducible repeat (first|apply Kd.dQ|apply Kd.dR|apply Kd.dV));exact abH.out⟩,⟨gz⟩,⟨fo⟩,⟨gy⟩⟩
      ·rw [if_neg c11] at H
       have oC:=beq_eq_false_iff_ne.mpr c11
       have wM:=bne_iff_ne.mpr c11
       by_cases LZ:(bt cm bW) < 32
       ·rw [if_pos LZ] at H
        have Q5:=decide_eq_true LZ
        clear LZ
        simp only [Option.some.injEq,Prod.mk.injEq] at H
        obtain ⟨rfl,rfl,rfl,rfl⟩:=H
        obtain ⟨L1,afI⟩:=eW.out
        have uZ:=dU L1
        have u5:=dP L1
        have u7:=af L1 0
        have u9:=af L1 1
        clear L1 afI
        have p7: 0≤(bW:Int):=of_decide_eq_true bp
        have q7:bW < (cm.size:Int):=of_decide_eq_true bp
        have AO:=dA cm bW
        replace p7:=eq_true p7
        replace q7:=eq_true q7
        go_wp2
        repeat (go_quiet (fail);try go_wp2)
        go_ret2
        exact ⟨cH,gz,gy,fo⟩
       ·rw [if_neg LZ] at H
        have Q5:=decide_eq_false LZ
        clear LZ
        by_cases c28:(bt cm bW) > 126
        ·rw [if_pos c28] at H
         have CW:decide (126 < (bt cm bW))=true:=decide_eq_true c28
         clear c28
         simp only [Option.some.injEq,Prod.mk.injEq] at H
         obtain ⟨rfl,rfl,rfl,rfl⟩:=H
         obtain ⟨L3,afJ⟩:=eW.out
         have Ee:=dU L3
         have Ef:=dP L3
         have Eg:=af L3 0
         have Eh:=af L3 1
         clear L3 afJ
         have p7: 0≤(bW:Int):=of_decide_eq_true bp
         have q7:bW < (cm.size:Int):=of_decide_eq_true bp
         have AO:=dA cm bW
         replace p7:=eq_true p7
         replace q7:=eq_true q7
         go_wp2
         repeat (go_quiet (fail);try go_wp2)
         go_ret2
         exact ⟨cH,gz,gy,fo⟩
        ·rw [if_neg c28] at H
         have CW:decide (126 < (bt cm bW))=false:=decide_eq_false c28
         clear c28
         obtain ⟨Fh,H⟩:=iA H
         have abI:=aa.mk Fh
         clear Fh
         obtain ⟨afK,L4⟩:∃ y_:List Int,y_=(G3 ++ [bt cm bW]):=⟨_,rfl⟩
         replace H:(cu.l0 k1 afK cm (wrap64 (bW + 1)))=some (r1,r2,r3,r4):=by first|(rw [L4];with_reducible exact H)|(have uY:=(Option.bind_some _ _).symm.trans H;rw [L4];with_reducible exact uY)|(have uY:=(Option.bind_some _ _).symm.trans H;with_reducible exact uY)|with_reducible exact H|(rw [L4];exact H)|exact H
         have abJ:=aa.mk L4
         clear L4
         have H':=aa.mk H
         clear H
         obtain ⟨L5,afL⟩:=eW.out
         have Q6:=dU L5
         have Q7:=dP L5
         have Q8:=af L5 0
         have Q9:=af L5 1
         clear L5 afL
         have p7: 0≤(bW:Int):=of_decide_eq_true bp
         have q7:bW < (cm.size:Int):=of_decide_eq_true bp
         have AO:=dA cm bW
         replace p7:=eq_true p7
         replace q7:=eq_true q7
         go_wp2_with (first|((with_reducible refine jo (b:= .append) (xs:=#[.tmp 77,.tmp 79]) rfl ?_);at_builtin;refine Kd.mZ (Kd.int .u8) w.heap.size rfl (.tmp 77) (.tmp 79) 23 5 (.int .u8 0) 1 rfl Tryz.underlying23 wH rfl bh ak u6 G3 (bt cm bW) [.int .u8 (bt cm bW)] (fun _ =>True) (fun _ =>False) rfl Au ?aP (fun _ hk=>hk.elim) ?aF ?aO (Below.refl _ _) ?aS ?aL ?_;(case aP=>exact rfl);(case aF=>exact (fun _ _ =>trivial));(case aO=>exact Qe);(case aS=>exact (rZ (w:=w) (g:=g) (row:=none) fo));(case aL=>have:=abI.out;omega);intro v160 JH ho hb hg hat;rw [← abJ.out] at ho;replace HB:=aa.mk (fE gy HL.out hb);replace eW:=aa.mk (aD.grown gz hg (aD.own_ne eW.out nJ.out bh));replace HK:=aa.mk (bM.trans fo (bM.sL hg g) (Kd.Az nJ.out));have abK:=aa.mk (ho);clear nJ;clear ho hb hg hat))
         repeat (go_quiet (fail);try go_wp2_with (first|((with_reducible refine jo (b:= .append) (xs:=#[.tmp 77,.tmp 79]) rfl ?_);at_builtin;refine Kd.mZ (Kd.int .u8) w.heap.size rfl (.tmp 77) (.tmp 79) 23 5 (.int .u8 0) 1 rfl Tryz.underlying23 wH rfl bh ak u6 G3 (bt cm bW) [.int .u8 (bt cm bW)] (fun _ =>True) (fun _ =>False) rfl Au ?aP (fun _ hk=>hk.elim) ?aF ?aO (Below.refl _ _) ?aS ?aL ?_;(case aP=>exact rfl);(case aF=>exact (fun _ _ =>trivial));(case aO=>exact Qe);(case aS=>exact (rZ (w:=w) (g:=g) (row:=none) fo));(case aL=>have:=abI.out;omega);intro v160 JH ho hb hg hat;rw [← abJ.out] at ho;replace HB:=aa.mk (fE gy HL.out hb);replace eW:=aa.mk (aD.grown gz hg (aD.own_ne eW.out nJ.out bh));replace HK:=aa.mk (bM.trans fo (bM.sL hg g) (Kd.Az nJ.out));have abK:=aa.mk (ho);clear nJ;clear ho hb hg hat)))
         go_roundg k1
         case measure=>have:=p9.out;omega
         case rel=>exact ⟨(afK),(cm),(wrap64 (bW + 1)),H',⟨je⟩,⟨by (with_reducible repeat (first|apply Kd.dQ|apply Kd.dR|apply Kd.dV));exact abK.out⟩,⟨gz⟩,⟨fo⟩,⟨gy⟩⟩
    ·rw [if_neg c5] at H
     have lF:=decide_eq_false c5
     clear c5
     simp only [Option.some.injEq,Prod.mk.injEq] at H
     obtain ⟨rfl,rfl,rfl,rfl⟩:=H
     obtain ⟨L6,afM⟩:=eW.out
     have JI:=dU L6
     have JJ:=dP L6
     have JK:=af L6 0
     have JL:=af L6 1
     clear L6 afM
     go_wp2
     repeat (go_quiet (fail);try go_wp2)
     go_ret2
     exact ⟨cH,gz,gy,fo⟩
 ·replace c3:=Bool.eq_false_iff.mpr c3
  subst c3
  rw [if_neg (show ¬ (false=true) by decide)] at H
  obtain ⟨⟨t150,t151,t152⟩,A34,H⟩:=bd_ H
  (try dsimp only at H)
  obtain ⟨Hr,H⟩:=iA H
  have Fi:=eq_true Hr
  have VB:=decide_eq_true Hr
  clear Hr
  obtain ⟨zC,H⟩:=iA H
  have L8:=eq_true zC
  have VC:=decide_eq_true zC
  clear zC
  obtain ⟨c37,H⟩:=iA H
  have CX:=eq_true c37
  have Ra:=decide_eq_true c37
  clear c37
  simp only [Option.some.injEq,Prod.mk.injEq] at H
  obtain ⟨rfl,rfl,rfl,rfl⟩:=H
  go_enter Tryz.func123,Tryz.ntmps123
  go_wp2_with (first|(go_at_call 56;(with_reducible refine (bV.calls g fB eA 34 false t148 t149 w0 _ ?aT ?cw A2.out).mono ?_);(case aT=>repeat (first|(with_reducible first|exact eW.out|apply aD.alloc|apply aD.drewN|apply aD.drew|apply aD.gm|apply aD.gi)|exact eW.out));(case cw=>repeat (first|(with_reducible first|exact HB.out|apply aV|apply aN|apply bf|refine aZ ?_ (aD.ge eW.out))|exact HB.out));rintro e w38 ⟨rfl,hi,hb,hk⟩;replace HK:=aa.mk (bM.trans fo hk (.inl rfl));replace HB:=aa.mk (hb);replace eW:=aa.mk (hi);(try clear hb);(try clear hk);(try clear hi);obtain ⟨wR,VD⟩:=eW.out;have Rb:=dU wR;have Rc:=dP wR;have Re:=af wR 0;have Rf:=af wR 1;clear wR VD)|(go_at_call 67;(with_reducible refine (aW.calls k g t148 t149 46 t150 t151 t152 w0 _ ?aT ?cw A34.out).mono ?_);(case aT=>repeat (first|(with_reducible first|exact eW.out|apply aD.alloc|apply aD.drewN|apply aD.drew|apply aD.gm|apply aD.gi)|exact eW.out));(case cw=>repeat (first|(with_reducible first|exact HB.out|apply aV|apply aN|apply bf|refine aZ ?_ (aD.ge eW.out))|exact HB.out));rintro e w40 ⟨rfl,hi,hb,hk⟩;replace HK:=aa.mk (bM.trans fo hk (.inl rfl));replace HB:=aa.mk (hb);replace eW:=aa.mk (hi);(try clear hb);(try clear hk);(try clear hi);obtain ⟨wS,VE⟩:=eW.out;have YT:=dU wS;have YU:=dP wS;have YV:=af wS 0;have YW:=af wS 1;clear wS VE))
  repeat (go_quiet (fail);try go_wp2_with (first|(go_at_call 56;(with_reducible refine (bV.calls g fB eA 34 false t148 t149 w0 _ ?aT ?cw A2.out).mono ?_);(case aT=>repeat (first|(with_reducible first|exact eW.out|apply aD.alloc|apply aD.drewN|apply aD.drew|apply aD.gm|apply aD.gi)|exact eW.out));(case cw=>repeat (first|(with_reducible first|exact HB.out|apply aV|apply aN|apply bf|refine aZ ?_ (aD.ge eW.out))|exact HB.out));rintro e w38 ⟨rfl,hi,hb,hk⟩;replace HK:=aa.mk (bM.trans fo hk (.inl rfl));replace HB:=aa.mk (hb);replace eW:=aa.mk (hi);(try clear hb);(try clear hk);(try clear hi);obtain ⟨wR,VD⟩:=eW.out;have Rb:=dU wR;have Rc:=dP wR;have Re:=af wR 0;have Rf:=af wR 1;clear wR VD)|(go_at_call 67;(with_reducible refine (aW.calls k g t148 t149 46 t150 t151 t152 w0 _ ?aT ?cw A34.out).mono ?_);(case aT=>repeat (first|(with_reducible first|exact eW.out|apply aD.alloc|apply aD.drewN|apply aD.drew|apply aD.gm|apply aD.gi)|exact eW.out));(case cw=>repeat (first|(with_reducible first|exact HB.out|apply aV|apply aN|apply bf|refine aZ ?_ (aD.ge eW.out))|exact HB.out));rintro e w40 ⟨rfl,hi,hb,hk⟩;replace HK:=aa.mk (bM.trans fo hk (.inl rfl));replace HB:=aa.mk (hb);replace eW:=aa.mk (hi);(try clear hb);(try clear hk);(try clear hi);obtain ⟨wS,VE⟩:=eW.out;have YT:=dU wS;have YU:=dP wS;have YV:=af wS 0;have YW:=af wS 1;clear wS VE)))
  go_ret2
  exact ⟨cH,gz,gy,fo⟩
def gG.f (a0:Int):Option (Bool):=some (a0 != 93)
theorem gG.calls (a0:Int) (r:Bool) (w:World) (h:gG.f a0=some r):
 Calls Tryz.prog 124 #[.int .u8 a0] w fun e w'=>e= .returned (.bool r)∧iC w w':=by
 have H:(some (a0 != 93))=some r:=h
 clear h
 obtain rfl:=Option.some.inj H
 go_enter Tryz.func124,Tryz.ntmps124
 go_wp2
 go_ret
 exact ⟨b9,dJ⟩
def bg.l0:Nat→Int→ByteArray→Int→Option (ByteArray×Bool×ByteArray×Int)
 | 0,_,_,_ =>none
 |k + 1,x6,iJ,fY=>if fY < (iJ.size:Int) then (if 0≤fY then ((gG.f (bt iJ fY)).bind fun t162=>(if t162=true then (bg.l0 k x6 iJ (wrap64 (fY + 1))) else (if 0≤x6 then (if x6≤fY then (if fY≤(iJ.size:Int) then (some (iJ.extract (x6:Int).toNat (fY:Int).toNat,decide (fY > x6),iJ,fY)) else (none)) else (none)) else (none)))) else (none)) else (if 0≤x6 then (if x6≤fY then (if fY≤(iJ.size:Int) then (some (iJ.extract (x6:Int).toNat (fY:Int).toNat,decide (fY > x6),iJ,fY)) else (none)) else (none)) else (none))
def bg.f (k:Nat) (fB:ByteArray) (eA:Int):Option (ByteArray×Bool×ByteArray×Int):=bg.l0 k eA fB eA
theorem bg.dF:∀ k,(∀ y0 y1 y2,bL (bg.l0 k y0 y1 y2) (bg.l0 (k + 1) y0 y1 y2))
 | 0=>fun _ _ _ r h=>by simp [bg.l0] at h
 |k + 1=>by
  have fV:=bg.dF k
  ·intro y0 y1 y2
   unfold bg.l0
   repeat' first
   |(with_reducible first|exact fV _ _ _|exact bL.refl _|exact bL.none _|refine bL.ite ?_ ?_|refine bL.bind ?_ (fun _ =>?_))
   |exact fV _ _ _
   |exact bL.none _
   |refine bL.ite ?_ ?_
   |refine bL.bind ?_ (fun _ =>?_)
theorem bg.mono:∀ a0 a1 k,bL (bg.f k a0 a1) (bg.f (k + 1) a0 a1):=by
 intro a0 a1 k
 have fV:=bg.dF k
 unfold bg.f
 repeat' first
  |(with_reducible first|exact fV _ _ _|exact bL.refl _|exact bL.none _|refine bL.ite ?_ ?_|refine bL.bind ?_ (fun _ =>?_))
  |exact fV _ _ _
  |exact bL.none _
  |refine bL.ite ?_ ?_
  |refine bL.bind ?_ (fun _ =>?_)
theorem bg.calls (k:Nat) (g:Nat) (fB:ByteArray) (eA:Int) (r1:ByteArray) (r2:Bool) (r3:ByteArray) (r4:Int) (w0 w:World) (hI:aD w0 w g fB eA) (hB:Below w0.heap.size w0 w) (h:bg.f k fB eA=some (r1,r2,r3,r4)):
 Calls Tryz.prog 119 #[.pointer (some ⟨g,0,none⟩),.func (.func 124) #[] #[]] w fun e w'=>e= .returned (.tuple #[.string r1,.bool r2])∧aD w0 w' g r3 r4∧Below w0.heap.size w0 w'∧bM w w' g none:=by
 have eW:=aa.mk hI
 have HK:=aa.mk (bM.refl w g none)
 have HL:=aa.mk hB.size
 clear hI
 have UI:=aa.mk hB.size
 have HB:=aa.mk hB
 clear hB
 have H:(bg.l0 k eA fB eA)=some (r1,r2,r3,r4):=h
 clear h
 have H':=aa.mk H
 clear H
 obtain ⟨wL,Vu⟩:=eW.out
 have N6:=dU wL
 have N7:=dP wL
 have N8:=af wL 0
 have N9:=af wL 1
 clear wL Vu
 go_enter Tryz.func119,Tryz.ntmps119
 go_wp2
 repeat (go_quiet (fail);try go_wp2)
 go_loopg [] k (fun kq w'=>∃ (cm:ByteArray) (bW:Int),aa (bg.l0 kq eA cm bW=some (r1,r2,r3,r4))∧aa (kq≤k)∧aa (aD w0 w' g cm bW)∧aa (bM w w' g none)∧aa (Below w0.heap.size w0 w'))
 case atStart=>exact ⟨(fB),(eA),H',⟨Nat.le_refl _⟩,⟨gz⟩,⟨fo⟩,⟨gy⟩⟩
 case round=>
  clear H'
  obtain ⟨cm,bW,HA,p9,eW,HK,HB⟩:=hrel
  cases gk with
  |zero=>exact absurd HA.out (by simp [bg.l0])
  |succ k1=>
   have H:=HA.out
   clear HA
   simp only [bg.l0] at H
   by_cases c4:bW < (cm.size:Int)
   ·rw [if_pos c4] at H
    have nB:=decide_eq_true c4
    clear c4
    obtain ⟨c5,H⟩:=iA H
    have lF:=decide_eq_true c5
    clear c5
    obtain ⟨t162,A7,H⟩:=bd_ H
    by_cases c8:t162=true
    ·subst c8
     rw [if_pos rfl] at H
     have H':=aa.mk H
     clear H
     obtain ⟨pQ,Ju⟩:=eW.out
     have rG:=dU pQ
     have rH:=dP pQ
     have rI:=af pQ 0
     have rJ:=af pQ 1
     clear pQ Ju
     have p6: 0≤(bW:Int):=of_decide_eq_true bp
     have q6:bW < (cm.size:Int):=of_decide_eq_true bp
     have hx6:=dA cm bW
     replace p6:=eq_true p6
     replace q6:=eq_true q6
     go_wp2_with (first|(go_at_call 124;(with_reducible refine (gG.calls (bt cm bW) true _ A7.out).mono ?_);rintro e w' ⟨rfl,⟨nd,rfl⟩⟩;(try first|exact ⟨rfl,_,World.drewN_drewN _ _ _⟩|exact ⟨rfl,_,Eq.trans (World.drewN_drewN _ _ _) (congrArg (World.drewN _) (Nat.add_assoc _ _ _))⟩)))
     repeat (go_quiet (first|(go_at_call 124;(with_reducible refine (gG.calls (bt cm bW) true _ A7.out).mono ?_);rintro e w' ⟨rfl,⟨nd,rfl⟩⟩;(try first|exact ⟨rfl,_,World.drewN_drewN _ _ _⟩|exact ⟨rfl,_,Eq.trans (World.drewN_drewN _ _ _) (congrArg (World.drewN _) (Nat.add_assoc _ _ _))⟩)));try go_wp2_with (first|(go_at_call 124;(with_reducible refine (gG.calls (bt cm bW) true _ A7.out).mono ?_);rintro e w' ⟨rfl,⟨nd,rfl⟩⟩;(try first|exact ⟨rfl,_,World.drewN_drewN _ _ _⟩|exact ⟨rfl,_,Eq.trans (World.drewN_drewN _ _ _) (congrArg (World.drewN _) (Nat.add_assoc _ _ _))⟩))))
     go_roundg k1
     case measure=>have:=p9.out;omega
     case rel=>exact ⟨(cm),(wrap64 (bW + 1)),H',⟨je⟩,⟨gz⟩,⟨fo⟩,⟨gy⟩⟩
    ·replace c8:=Bool.eq_false_iff.mpr c8
     subst c8
     rw [if_neg (show ¬ (false=true) by decide)] at H
     obtain ⟨c10,H⟩:=iA H
     have pR:=eq_true c10
     have AK:=decide_eq_true c10
     clear c10
     obtain ⟨c11,H⟩:=iA H
     have oC:=eq_true c11
     have wM:=decide_eq_true c11
     clear c11
     obtain ⟨c12,H⟩:=iA H
     have zg:=eq_true c12
     have LK:=decide_eq_true c12
     clear c12
     simp only [Option.some.injEq,Prod.mk.injEq] at H
     obtain ⟨rfl,rfl,rfl,rfl⟩:=H
     obtain ⟨qR,LL⟩:=eW.out
     have qD:=dU qR
     have qE:=dP qR
     have qF:=af qR 0
     have qG:=af qR 1
     clear qR LL
     have p6: 0≤(bW:Int):=of_decide_eq_true bp
     have q6:bW < (cm.size:Int):=of_decide_eq_true bp
     have hx6:=dA cm bW
     replace p6:=eq_true p6
     replace q6:=eq_true q6
     go_wp2_with (first|(go_at_call 124;(with_reducible refine (gG.calls (bt cm bW) false _ A7.out).mono ?_);rintro e w' ⟨rfl,⟨nd,rfl⟩⟩;(try first|exact ⟨rfl,_,World.drewN_drewN _ _ _⟩|exact ⟨rfl,_,Eq.trans (World.drewN_drewN _ _ _) (congrArg (World.drewN _) (Nat.add_assoc _ _ _))⟩)))
     repeat (go_quiet (first|(go_at_call 124;(with_reducible refine (gG.calls (bt cm bW) false _ A7.out).mono ?_);rintro e w' ⟨rfl,⟨nd,rfl⟩⟩;(try first|exact ⟨rfl,_,World.drewN_drewN _ _ _⟩|exact ⟨rfl,_,Eq.trans (World.drewN_drewN _ _ _) (congrArg (World.drewN _) (Nat.add_assoc _ _ _))⟩)));try go_wp2_with (first|(go_at_call 124;(with_reducible refine (gG.calls (bt cm bW) false _ A7.out).mono ?_);rintro e w' ⟨rfl,⟨nd,rfl⟩⟩;(try first|exact ⟨rfl,_,World.drewN_drewN _ _ _⟩|exact ⟨rfl,_,Eq.trans (World.drewN_drewN _ _ _) (congrArg (World.drewN _) (Nat.add_assoc _ _ _))⟩))))
     go_ret2
     exact ⟨cH,gz,gy,fo⟩
   ·rw [if_neg c4] at H
    have nB:=decide_eq_false c4
    clear c4
    obtain ⟨c14,H⟩:=iA H
    have CT:=eq_true c14
    have LM:=decide_eq_true c14
    clear c14
    obtain ⟨c15,H⟩:=iA H
    have tL:=eq_true c15
    have CU:=decide_eq_true c15
    clear c15
    obtain ⟨c16,H⟩:=iA H
    have qT:=eq_true c16
    have CV:=decide_eq_true c16
    clear c16
    simp only [Option.some.injEq,Prod.mk.injEq] at H
    obtain ⟨rfl,rfl,rfl,rfl⟩:=H
    obtain ⟨qU,LN⟩:=eW.out
    have Jv:=dU qU
    have Jw:=dP qU
    have Jx:=af qU 0
    have Jy:=af qU 1
    clear qU LN
    go_wp2
    repeat (go_quiet (fail);try go_wp2)
    go_ret2
    exact ⟨cH,gz,gy,fo⟩
end Go.Proofs.YtokpnfljjjjikaaGreatDoor.mY
