import Derived.Test.YtokpnfljjjjikaaGreatDoorQPtx2
set_option maxHeartbeats 8000000
set_option maxRecDepth 100000
namespace Go.Proofs.YtokpnfljjjjikaaGreatDoor.mY
open Go.RowKit Go.Proofs.YtokpnfljjjjikaaGreatDoor.qP Go.Proofs.aj.bO Go.Proofs.aj.fA Go.Proofs.aj.cK
attribute [local go_sem] ia ig iU iV gf gh ij iq
set_option linter.unusedVariables false
set_option linter.unusedSimpArgs false
def mh.f (a0:Int):Option (Bool):=if a0≥48 then (some (decide (a0≤57))) else (some false)
theorem mh.calls (a0:Int) (r:Bool) (w:World) (h:mh.f a0=some r):
 Calls Tryz.prog 158 #[.int .u8 a0] w fun e w'=>e= .returned (.bool r)∧iC w w':=by
 have H:(if a0≥48 then (some (decide (a0≤57))) else (some false))=some r:=h
 clear h
 by_cases c2:a0≥48
 ·rw [if_pos c2] at H
  have sP:decide (48≤a0)=true:=decide_eq_true c2
  clear c2
  obtain rfl:=Option.some.inj H
  go_enter Tryz.func158,Tryz.ntmps158
  go_wp2
  go_ret
  exact ⟨b9,dJ⟩
 ·rw [if_neg c2] at H
  have sP:decide (48≤a0)=false:=decide_eq_false c2
  clear c2
  obtain rfl:=Option.some.inj H
  go_enter Tryz.func158,Tryz.ntmps158
  go_wp2
  go_ret
  exact ⟨b9,dJ⟩
def eU.f (a0:Int):Option (Bool):=(jS.f a0).bind fun t116=>(if t116=true then (some true) else ((mh.f a0).bind fun t117=>(if t117=true then (some true) else (some (a0 == 45)))))
theorem eU.calls (a0:Int) (r:Bool) (w:World) (h:eU.f a0=some r):
 Calls Tryz.prog 168 #[.int .u8 a0] w fun e w'=>e= .returned (.bool r)∧iC w w':=by
 have H:((jS.f a0).bind fun t116=>(if t116=true then (some true) else ((mh.f a0).bind fun t117=>(if t117=true then (some true) else (some (a0 == 45))))))=some r:=h
 clear h
 obtain ⟨t116,A2,H⟩:=bd_ H
 by_cases c3:t116=true
 ·subst c3
  rw [if_pos rfl] at H
  obtain rfl:=Option.some.inj H
  go_enter Tryz.func168,Tryz.ntmps168
  go_wp2_with (first|((with_reducible refine aK (f:=157) rfl ?_);refine bU (some 4) rfl rfl Tryz.func157 aq rfl #[.int .u8 a0] rfl cz ?_;(with_reducible refine (jS.calls a0 true _ A2.out).mono ?_);rintro e w' ⟨rfl,⟨nd,rfl⟩⟩;refine ⟨_,rfl,?_⟩))
  go_ret
  exact ⟨b9,dJ⟩
 ·replace c3:=Bool.eq_false_iff.mpr c3
  subst c3
  rw [if_neg (show ¬ (false=true) by decide)] at H
  obtain ⟨t117,A4,H⟩:=bd_ H
  by_cases c5:t117=true
  ·subst c5
   rw [if_pos rfl] at H
   obtain rfl:=Option.some.inj H
   go_enter Tryz.func168,Tryz.ntmps168
   go_wp2_with (first|((with_reducible refine aK (f:=157) rfl ?_);refine bU (some 4) rfl rfl Tryz.func157 aq rfl #[.int .u8 a0] rfl cz ?_;(with_reducible refine (jS.calls a0 false _ A2.out).mono ?_);rintro e w' ⟨rfl,⟨nd,rfl⟩⟩;refine ⟨_,rfl,?_⟩)|(go_at_call 158;(with_reducible refine (mh.calls a0 true _ A4.out).mono ?_);rintro e w' ⟨rfl,⟨nd,rfl⟩⟩))
   go_ret
   exact ⟨b9,dJ⟩
  ·replace c5:=Bool.eq_false_iff.mpr c5
   subst c5
   rw [if_neg (show ¬ (false=true) by decide)] at H
   obtain rfl:=Option.some.inj H
   go_enter Tryz.func168,Tryz.ntmps168
   go_wp2_with (first|((with_reducible refine aK (f:=157) rfl ?_);refine bU (some 4) rfl rfl Tryz.func157 aq rfl #[.int .u8 a0] rfl cz ?_;(with_reducible refine (jS.calls a0 false _ A2.out).mono ?_);rintro e w' ⟨rfl,⟨nd,rfl⟩⟩;refine ⟨_,rfl,?_⟩)|(go_at_call 158;(with_reducible refine (mh.calls a0 false _ A4.out).mono ?_);rintro e w' ⟨rfl,⟨nd,rfl⟩⟩))
   go_ret
   exact ⟨b9,dJ⟩
def aX.l0:Nat→Int→ByteArray→Int→Option (ByteArray×Bool×ByteArray×Int)
 | 0,_,_,_ =>none
 |k + 1,x6,iJ,fY=>if fY < (iJ.size:Int) then (if 0≤fY then ((eU.f (bt iJ fY)).bind fun t118=>(if t118=true then (aX.l0 k x6 iJ (wrap64 (fY + 1))) else (if 0≤x6 then (if x6≤fY then (if fY≤(iJ.size:Int) then (some (iJ.extract (x6:Int).toNat (fY:Int).toNat,decide (fY > x6),iJ,fY)) else (none)) else (none)) else (none)))) else (none)) else (if 0≤x6 then (if x6≤fY then (if fY≤(iJ.size:Int) then (some (iJ.extract (x6:Int).toNat (fY:Int).toNat,decide (fY > x6),iJ,fY)) else (none)) else (none)) else (none))
def aX.f (k:Nat) (fB:ByteArray) (eA:Int):Option (ByteArray×Bool×ByteArray×Int):=aX.l0 k eA fB eA
theorem aX.dF:∀ k,(∀ y0 y1 y2,bL (aX.l0 k y0 y1 y2) (aX.l0 (k + 1) y0 y1 y2))
 | 0=>fun _ _ _ r h=>by simp [aX.l0] at h
 |k + 1=>by
  have fV:=aX.dF k
  ·intro y0 y1 y2
   unfold aX.l0
   repeat' first
   |(with_reducible first|exact fV _ _ _|exact bL.refl _|exact bL.none _|refine bL.ite ?_ ?_|refine bL.bind ?_ (fun _ =>?_))
   |exact fV _ _ _
   |exact bL.none _
   |refine bL.ite ?_ ?_
   |refine bL.bind ?_ (fun _ =>?_)
theorem aX.mono:∀ a0 a1 k,bL (aX.f k a0 a1) (aX.f (k + 1) a0 a1):=by
 intro a0 a1 k
 have fV:=aX.dF k
 unfold aX.f
 repeat' first
  |(with_reducible first|exact fV _ _ _|exact bL.refl _|exact bL.none _|refine bL.ite ?_ ?_|refine bL.bind ?_ (fun _ =>?_))
  |exact fV _ _ _
  |exact bL.none _
  |refine bL.ite ?_ ?_
  |refine bL.bind ?_ (fun _ =>?_)
theorem aX.calls (k:Nat) (g:Nat) (fB:ByteArray) (eA:Int) (r1:ByteArray) (r2:Bool) (r3:ByteArray) (r4:Int) (w0 w:World) (hI:aD w0 w g fB eA) (hB:Below w0.heap.size w0 w) (h:aX.f k fB eA=some (r1,r2,r3,r4)):
 Calls Tryz.prog 119 #[.pointer (some ⟨g,0,none⟩),.func (.func 168) #[] #[]] w fun e w'=>e= .returned (.tuple #[.string r1,.bool r2])∧aD w0 w' g r3 r4∧Below w0.heap.size w0 w'∧bM w w' g none:=by
 have eW:=aa.mk hI
 have HK:=aa.mk (bM.refl w g none)
 have HL:=aa.mk hB.size
 clear hI
 have UI:=aa.mk hB.size
 have HB:=aa.mk hB
 clear hB
 have H:(aX.l0 k eA fB eA)=some (r1,r2,r3,r4):=h
 clear h
 have H':=aa.mk H
 clear H
 obtain ⟨wL,Vu⟩:=eW.out
 have N6:=dU wL
 have N7:=dP wL
 have N8:=af wL 0
 have N9:=af wL 1
 clear wL Vu
 go_enter Tryz.func119,Tryz.ntmps119
 go_wp2
 repeat (go_quiet (fail);try go_wp2)
 go_loopg [] k (fun kq w'=>∃ (cm:ByteArray) (bW:Int),aa (aX.l0 kq eA cm bW=some (r1,r2,r3,r4))∧aa (kq≤k)∧aa (aD w0 w' g cm bW)∧aa (bM w w' g none)∧aa (Below w0.heap.size w0 w'))
 case atStart=>exact ⟨(fB),(eA),H',⟨Nat.le_refl _⟩,⟨gz⟩,⟨fo⟩,⟨gy⟩⟩
 case round=>
  clear H'
  obtain ⟨cm,bW,HA,p9,eW,HK,HB⟩:=hrel
  cases gk with
  |zero=>exact absurd HA.out (by simp [aX.l0])
  |succ k1=>
   have H:=HA.out
   clear HA
   simp only [aX.l0] at H
   by_cases c4:bW < (cm.size:Int)
   ·rw [if_pos c4] at H
    have nB:=decide_eq_true c4
    clear c4
    obtain ⟨c5,H⟩:=iA H
    have lF:=decide_eq_true c5
    clear c5
    obtain ⟨t118,A7,H⟩:=bd_ H
    by_cases c8:t118=true
    ·subst c8
     rw [if_pos rfl] at H
     have H':=aa.mk H
     clear H
     obtain ⟨pQ,Ju⟩:=eW.out
     have rG:=dU pQ
     have rH:=dP pQ
     have rI:=af pQ 0
     have rJ:=af pQ 1
     clear pQ Ju
     have p6: 0≤(bW:Int):=of_decide_eq_true bp
     have q6:bW < (cm.size:Int):=of_decide_eq_true bp
     have hx6:=dA cm bW
     replace p6:=eq_true p6
     replace q6:=eq_true q6
     go_wp2_with (first|(go_at_call 168;(with_reducible refine (eU.calls (bt cm bW) true _ A7.out).mono ?_);rintro e w' ⟨rfl,⟨nd,rfl⟩⟩;(try first|exact ⟨rfl,_,World.drewN_drewN _ _ _⟩|exact ⟨rfl,_,Eq.trans (World.drewN_drewN _ _ _) (congrArg (World.drewN _) (Nat.add_assoc _ _ _))⟩)))
     repeat (go_quiet (first|(go_at_call 168;(with_reducible refine (eU.calls (bt cm bW) true _ A7.out).mono ?_);rintro e w' ⟨rfl,⟨nd,rfl⟩⟩;(try first|exact ⟨rfl,_,World.drewN_drewN _ _ _⟩|exact ⟨rfl,_,Eq.trans (World.drewN_drewN _ _ _) (congrArg (World.drewN _) (Nat.add_assoc _ _ _))⟩)));try go_wp2_with (first|(go_at_call 168;(with_reducible refine (eU.calls (bt cm bW) true _ A7.out).mono ?_);rintro e w' ⟨rfl,⟨nd,rfl⟩⟩;(try first|exact ⟨rfl,_,World.drewN_drewN _ _ _⟩|exact ⟨rfl,_,Eq.trans (World.drewN_drewN _ _ _) (congrArg (World.drewN _) (Nat.add_assoc _ _ _))⟩))))
     go_roundg k1
     case measure=>have:=p9.out;omega
     case rel=>exact ⟨(cm),(wrap64 (bW + 1)),H',⟨je⟩,⟨gz⟩,⟨fo⟩,⟨gy⟩⟩
    ·replace c8:=Bool.eq_false_iff.mpr c8
     subst c8
     rw [if_neg (show ¬ (false=true) by decide)] at H
     obtain ⟨c10,H⟩:=iA H
     have pR:=eq_true c10
     have AK:=decide_eq_true c10
     clear c10
     obtain ⟨c11,H⟩:=iA H
     have oC:=eq_true c11
     have wM:=decide_eq_true c11
     clear c11
     obtain ⟨c12,H⟩:=iA H
     have zg:=eq_true c12
     have LK:=decide_eq_true c12
     clear c12
     simp only [Option.some.injEq,Prod.mk.injEq] at H
     obtain ⟨rfl,rfl,rfl,rfl⟩:=H
     obtain ⟨qR,LL⟩:=eW.out
     have qD:=dU qR
     have qE:=dP qR
     have qF:=af qR 0
     have qG:=af qR 1
     clear qR LL
     have p6: 0≤(bW:Int):=of_decide_eq_true bp
     have q6:bW < (cm.size:Int):=of_decide_eq_true bp
     have hx6:=dA cm bW
     replace p6:=eq_true p6
     replace q6:=eq_true q6
     go_wp2_with (first|(go_at_call 168;(with_reducible refine (eU.calls (bt cm bW) false _ A7.out).mono ?_);rintro e w' ⟨rfl,⟨nd,rfl⟩⟩;(try first|exact ⟨rfl,_,World.drewN_drewN _ _ _⟩|exact ⟨rfl,_,Eq.trans (World.drewN_drewN _ _ _) (congrArg (World.drewN _) (Nat.add_assoc _ _ _))⟩)))
     repeat (go_quiet (first|(go_at_call 168;(with_reducible refine (eU.calls (bt cm bW) false _ A7.out).mono ?_);rintro e w' ⟨rfl,⟨nd,rfl⟩⟩;(try first|exact ⟨rfl,_,World.drewN_drewN _ _ _⟩|exact ⟨rfl,_,Eq.trans (World.drewN_drewN _ _ _) (congrArg (World.drewN _) (Nat.add_assoc _ _ _))⟩)));try go_wp2_with (first|(go_at_call 168;(with_reducible refine (eU.calls (bt cm bW) false _ A7.out).mono ?_);rintro e w' ⟨rfl,⟨nd,rfl⟩⟩;(try first|exact ⟨rfl,_,World.drewN_drewN _ _ _⟩|exact ⟨rfl,_,Eq.trans (World.drewN_drewN _ _ _) (congrArg (World.drewN _) (Nat.add_assoc _ _ _))⟩))))
     go_ret2
     exact ⟨cH,gz,gy,fo⟩
   ·rw [if_neg c4] at H
    have nB:=decide_eq_false c4
    clear c4
    obtain ⟨c14,H⟩:=iA H
    have CT:=eq_true c14
    have LM:=decide_eq_true c14
    clear c14
    obtain ⟨c15,H⟩:=iA H
    have tL:=eq_true c15
    have CU:=decide_eq_true c15
    clear c15
    obtain ⟨c16,H⟩:=iA H
    have qT:=eq_true c16
    have CV:=decide_eq_true c16
    clear c16
    simp only [Option.some.injEq,Prod.mk.injEq] at H
    obtain ⟨rfl,rfl,rfl,rfl⟩:=H
    obtain ⟨qU,LN⟩:=eW.out
    have Jv:=dU qU
    have Jw:=dP qU
    have Jx:=af qU 0
    have Jy:=af qU 1
    clear qU LN
    go_wp2
    repeat (go_quiet (fail);try go_wp2)
    go_ret2
    exact ⟨cH,gz,gy,fo⟩
def eV.f (k:Nat) (fB:ByteArray) (eA:Int):Option (Bool×ByteArray×Int):=(aX.f k fB eA).bind fun l5=>(if l5.2.1=true then (if 0 < (l5.1.size:Int) then (if (bt l5.1 0)=45 then (some (false,l5.2.2.1,l5.2.2.2)) else (if 0≤(wrap64 ((l5.1.size:Int) - 1)) then (if (wrap64 ((l5.1.size:Int) - 1)) < (l5.1.size:Int) then (some (((bt l5.1 (wrap64 ((l5.1.size:Int) - 1))) != 45),l5.2.2.1,l5.2.2.2)) else (none)) else (none))) else (none)) else (some (false,l5.2.2.1,l5.2.2.2)))
theorem eV.mono:∀ a0 a1 k,bL (eV.f k a0 a1) (eV.f (k + 1) a0 a1):=by
 intro a0 a1 k
 unfold eV.f
 repeat' first
  |(with_reducible first|exact aX.mono _ _ _|exact bL.refl _|exact bL.none _|refine bL.ite ?_ ?_|refine bL.bind ?_ (fun _ =>?_))
  |exact aX.mono _ _ _
  |exact bL.none _
  |refine bL.ite ?_ ?_
  |refine bL.bind ?_ (fun _ =>?_)
theorem eV.calls (k:Nat) (g:Nat) (fB:ByteArray) (eA:Int) (r1:Bool) (r2:ByteArray) (r3:Int) (w0 w:World) (hI:aD w0 w g fB eA) (hB:Below w0.heap.size w0 w) (h:eV.f k fB eA=some (r1,r2,r3)):
 Calls Tryz.prog 129 #[.pointer (some ⟨g,0,none⟩)] w fun e w'=>e= .returned (.bool r1)∧aD w0 w' g r2 r3∧Below w0.heap.size w0 w'∧bM w w' g none:=by
 have eW:=aa.mk hI
 have HK:=aa.mk (bM.refl w g none)
 have HL:=aa.mk hB.size
 clear hI
 have UI:=aa.mk hB.size
 have HB:=aa.mk hB
 clear hB
 have H:((aX.f k fB eA).bind fun l5=>(if l5.2.1=true then (if 0 < (l5.1.size:Int) then (if (bt l5.1 0)=45 then (some (false,l5.2.2.1,l5.2.2.2)) else (if 0≤(wrap64 ((l5.1.size:Int) - 1)) then (if (wrap64 ((l5.1.size:Int) - 1)) < (l5.1.size:Int) then (some (((bt l5.1 (wrap64 ((l5.1.size:Int) - 1))) != 45),l5.2.2.1,l5.2.2.2)) else (none)) else (none))) else (none)) else (some (false,l5.2.2.1,l5.2.2.2))))=some (r1,r2,r3):=h
 clear h
 obtain ⟨⟨t119,t120,t121,t122⟩,A2,H⟩:=bd_ H
 (try dsimp only at H)
 by_cases c3:t120=true
 ·subst c3
  rw [if_pos rfl] at H
  obtain ⟨c4,H⟩:=iA H
  have nB:=decide_eq_true c4
  have LJ:decide (0 < t119.size)=true:=decide_eq_true ak
  clear c4
  by_cases c6:(bt t119 0)=45
  ·rw [if_pos c6] at H
   have nL:=beq_iff_eq.mpr c6
   have wK:=bne_eq_false_iff_eq.mpr c6
   clear c6
   simp only [Option.some.injEq,Prod.mk.injEq] at H
   obtain ⟨rfl,rfl,rfl⟩:=H
   go_enter Tryz.func129,Tryz.ntmps129
   go_wp2_with (first|((with_reducible refine aK (f:=119) rfl ?_);refine bU (some 7) rfl rfl Tryz.func119 aq rfl #[.pointer (some ⟨g,0,none⟩),.func (.func 168) #[] #[]] rfl cz ?_;(with_reducible refine (aX.calls k g fB eA t119 true t121 t122 w0 _ ?aT ?cw A2.out).mono ?_);(case aT=>repeat (first|(with_reducible first|exact eW.out|apply aD.alloc|apply aD.drewN|apply aD.drew|apply aD.gm|apply aD.gi)|exact eW.out));(case cw=>repeat (first|(with_reducible first|exact HB.out|apply aV|apply aN|apply bf|refine aZ ?_ (aD.ge eW.out))|exact HB.out));rintro e w7 ⟨rfl,hi,hb,hk⟩;refine ⟨_,rfl,?_⟩;replace HK:=aa.mk (bM.trans fo hk (.inl rfl));replace HB:=aa.mk (hb);replace eW:=aa.mk (hi);(try clear hb);(try clear hk);(try clear hi);have p5: 0≤(0:Int):=ak;have q5: 0 < t119.size:=(by have:(0:Int) < (t119.size:Int):=of_decide_eq_true bp;omega);have hx5:∀ h: 0 < t119.size,((t119[0]'h).toNat:Int)=bt t119 0:=dA t119 0;clear p5;have qi5:(0 < (t119.size:Int))=True:=eq_true (of_decide_eq_true bp);replace q5:=eq_true q5))
   go_ret
   exact ⟨cH,gz,gy,fo⟩
  ·rw [if_neg c6] at H
   have nL:=beq_eq_false_iff_ne.mpr c6
   have wK:=bne_iff_ne.mpr c6
   obtain ⟨ji8,Vv⟩:∃ j_:Int,(wrap64 ((t119.size:Int) - 1))=j_ :=⟨_,rfl⟩
   (first|rw [Vv] at H|simp only [Vv] at H)
   (try rw [Vv] at A2)
   have arI:(IntKind.i64.wrap ((t119.size:Int) - 1))=ji8:=(cU _).trans Vv
   obtain ⟨c9,H⟩:=iA H
   have Cg:=decide_eq_true c9
   clear c9
   obtain ⟨c10,H⟩:=iA H
   have pR:=decide_eq_true c10
   clear c10
   simp only [Option.some.injEq,Prod.mk.injEq] at H
   obtain ⟨rfl,rfl,rfl⟩:=H
   go_enter Tryz.func129,Tryz.ntmps129
   go_wp2_with (first|((with_reducible refine aK (f:=119) rfl ?_);refine bU (some 7) rfl rfl Tryz.func119 aq rfl #[.pointer (some ⟨g,0,none⟩),.func (.func 168) #[] #[]] rfl cz ?_;(with_reducible refine (aX.calls k g fB eA t119 true t121 t122 w0 _ ?aT ?cw A2.out).mono ?_);(case aT=>repeat (first|(with_reducible first|exact eW.out|apply aD.alloc|apply aD.drewN|apply aD.drew|apply aD.gm|apply aD.gi)|exact eW.out));(case cw=>repeat (first|(with_reducible first|exact HB.out|apply aV|apply aN|apply bf|refine aZ ?_ (aD.ge eW.out))|exact HB.out));rintro e Ld ⟨rfl,hi,hb,hk⟩;refine ⟨_,rfl,?_⟩;replace HK:=aa.mk (bM.trans fo hk (.inl rfl));replace HB:=aa.mk (hb);replace eW:=aa.mk (hi);(try clear hb);(try clear hk);(try clear hi);have p5: 0≤(0:Int):=ak;have q5: 0 < t119.size:=(by have:(0:Int) < (t119.size:Int):=of_decide_eq_true bp;omega);have hx5:∀ h: 0 < t119.size,((t119[0]'h).toNat:Int)=bt t119 0:=dA t119 0;clear p5;have qi5:(0 < (t119.size:Int))=True:=eq_true (of_decide_eq_true bp);replace q5:=eq_true q5;have p11: 0≤((ji8):Int):=of_decide_eq_true bp;have q11:(ji8) < (t119.size:Int):=of_decide_eq_true bp;have au9:=dA t119 (ji8);replace p11:=eq_true p11;replace q11:=eq_true q11))
   go_ret
   exact ⟨by first|rfl|(simp [kP,kQ]<;>rfl)|(simp only [← Vv];first|rfl|(simp [kP,kQ]<;>rfl))|(simp [*,kP,kQ]<;>rfl),gz,gy,fo⟩
 ·replace c3:=Bool.eq_false_iff.mpr c3
  subst c3
  rw [if_neg (show ¬ (false=true) by decide)] at H
  simp only [Option.some.injEq,Prod.mk.injEq] at H
  obtain ⟨rfl,rfl,rfl⟩:=H
  go_enter Tryz.func129,Tryz.ntmps129
  go_wp2_with (first|((with_reducible refine aK (f:=119) rfl ?_);refine bU (some 7) rfl rfl Tryz.func119 aq rfl #[.pointer (some ⟨g,0,none⟩),.func (.func 168) #[] #[]] rfl cz ?_;(with_reducible refine (aX.calls k g fB eA t119 false t121 t122 w0 _ ?aT ?cw A2.out).mono ?_);(case aT=>repeat (first|(with_reducible first|exact eW.out|apply aD.alloc|apply aD.drewN|apply aD.drew|apply aD.gm|apply aD.gi)|exact eW.out));(case cw=>repeat (first|(with_reducible first|exact HB.out|apply aV|apply aN|apply bf|refine aZ ?_ (aD.ge eW.out))|exact HB.out));rintro e Hq ⟨rfl,hi,hb,hk⟩;refine ⟨_,rfl,?_⟩;replace HK:=aa.mk (bM.trans fo hk (.inl rfl));replace HB:=aa.mk (hb);replace eW:=aa.mk (hi);(try clear hb);(try clear hk);(try clear hi)))
  go_ret
  exact ⟨cH,gz,gy,fo⟩
def bn.l0:Nat→Int→ByteArray→Int→Option (Bool×ByteArray×Int)
 | 0,_,_,_ =>none
 |k + 1,x1,iJ,fY=>(eV.f k iJ fY).bind fun LP=>(if LP.1=true then ((bV.f LP.2.1 LP.2.2 x1).bind fun LQ=>(if LQ.1=true then (bn.l0 k x1 LQ.2.1 LQ.2.2) else (some (true,LQ.2.1,LQ.2.2)))) else (some (false,LP.2.1,LP.2.2)))
def bn.f (k:Nat) (fB:ByteArray) (eA:Int) (a1:Int):Option (Bool×ByteArray×Int):=bn.l0 k a1 fB eA
theorem bn.dF:∀ k,(∀ y0 y1 y2,bL (bn.l0 k y0 y1 y2) (bn.l0 (k + 1) y0 y1 y2))
 | 0=>fun _ _ _ r h=>by simp [bn.l0] at h
 |k + 1=>by
  have fV:=bn.dF k
  ·intro y0 y1 y2
   unfold bn.l0
   repeat' first
   |(with_reducible first|exact fV _ _ _|exact eV.mono _ _ _|exact bL.refl _|exact bL.none _|refine bL.ite ?_ ?_|refine bL.bind ?_ (fun _ =>?_))
   |exact fV _ _ _
   |exact eV.mono _ _ _
   |exact bL.none _
   |refine bL.ite ?_ ?_
   |refine bL.bind ?_ (fun _ =>?_)
theorem bn.mono:∀ a0 a1 a2 k,bL (bn.f k a0 a1 a2) (bn.f (k + 1) a0 a1 a2):=by
 intro a0 a1 a2 k
 have fV:=bn.dF k
 unfold bn.f
 repeat' first
  |(with_reducible first|exact fV _ _ _|exact eV.mono _ _ _|exact bL.refl _|exact bL.none _|refine bL.ite ?_ ?_|refine bL.bind ?_ (fun _ =>?_))
  |exact fV _ _ _
  |exact eV.mono _ _ _
  |exact bL.none _
  |refine bL.ite ?_ ?_
  |refine bL.bind ?_ (fun _ =>?_)
theorem bn.calls (k:Nat) (g:Nat) (fB:ByteArray) (eA:Int) (a1:Int) (r1:Bool) (r2:ByteArray) (r3:Int) (w0 w:World) (hI:aD w0 w g fB eA) (hB:Below w0.heap.size w0 w) (h:bn.f k fB eA a1=some (r1,r2,r3)):
 Calls Tryz.prog 67 #[.pointer (some ⟨g,0,none⟩),.int .u8 a1,.func (.func 129) #[.pointer (some ⟨g,0,none⟩)] #[]] w fun e w'=>e= .returned (.bool r1)∧aD w0 w' g r2 r3∧Below w0.heap.size w0 w'∧bM w w' g none:=by
 have eW:=aa.mk hI
 have HK:=aa.mk (bM.refl w g none)
 have HL:=aa.mk hB.size
 clear hI
 have UI:=aa.mk hB.size
 have HB:=aa.mk hB
 clear hB
 have H:(bn.l0 k a1 fB eA)=some (r1,r2,r3):=h
 clear h
 have H':=aa.mk H
 clear H
 go_enter Tryz.func67,Tryz.ntmps67
 go_wp2
 go_loopg [] k (fun kq w'=>∃ (cm:ByteArray) (bW:Int),aa (bn.l0 kq a1 cm bW=some (r1,r2,r3))∧aa (kq≤k)∧aa (aD w0 w' g cm bW)∧aa (bM w w' g none)∧aa (Below w0.heap.size w0 w'))
 case atStart=>exact ⟨(fB),(eA),H',⟨Nat.le_refl _⟩,⟨gz⟩,⟨fo⟩,⟨gy⟩⟩
 case round=>
  clear H'
  obtain ⟨cm,bW,HA,p9,eW,HK,HB⟩:=hrel
  cases gk with
  |zero=>exact absurd HA.out (by simp [bn.l0])
  |succ k1=>
   have H:=HA.out
   clear HA
   simp only [bn.l0] at H
   obtain ⟨⟨t123,t124,t125⟩,A4,H⟩:=bd_ H
   (try dsimp only at H)
   by_cases c5:t123=true
   ·subst c5
    rw [if_pos rfl] at H
    obtain ⟨⟨t126,t127,t128⟩,A6,H⟩:=bd_ H
    (try dsimp only at H)
    by_cases c7:t126=true
    ·subst c7
     rw [if_pos rfl] at H
     have H':=aa.mk H
     clear H
     go_wp2_with (first|(go_at_call 129;(with_reducible refine (eV.calls k1 g cm bW true t124 t125 w0 _ ?aT ?cw A4.out).mono ?_);(case aT=>repeat (first|(with_reducible first|exact eW.out|apply aD.alloc|apply aD.drewN|apply aD.drew|apply aD.gm|apply aD.gi)|exact eW.out));(case cw=>repeat (first|(with_reducible first|exact HB.out|apply aV|apply aN|apply bf|refine aZ ?_ (aD.ge eW.out))|exact HB.out));rintro e w8 ⟨rfl,hi,hb,hk⟩;replace HK:=aa.mk (bM.trans fo hk (.inl rfl));replace HB:=aa.mk (hb);replace eW:=aa.mk (hi);(try clear hb);(try clear hk);(try clear hi))|((with_reducible refine aK (f:=56) rfl ?_);refine bU (some 11) rfl rfl Tryz.func56 aq rfl #[.pointer (some ⟨g,0,none⟩),.int .u8 a1] rfl cz ?_;(with_reducible refine (bV.calls g t124 t125 a1 true t127 t128 w0 _ ?aT ?cw A6.out).mono ?_);(case aT=>repeat (first|(with_reducible first|exact eW.out|apply aD.alloc|apply aD.drewN|apply aD.drew|apply aD.gm|apply aD.gi)|exact eW.out));(case cw=>repeat (first|(with_reducible first|exact HB.out|apply aV|apply aN|apply bf|refine aZ ?_ (aD.ge eW.out))|exact HB.out));rintro e w9 ⟨rfl,hi,hb,hk⟩;refine ⟨_,rfl,?_⟩;replace HK:=aa.mk (bM.trans fo hk (.inl rfl));replace HB:=aa.mk (hb);replace eW:=aa.mk (hi);(try clear hb);(try clear hk);(try clear hi)))
     go_roundg k1
     case measure=>have:=p9.out;omega
     case rel=>exact ⟨(t127),(t128),H',⟨je⟩,⟨gz⟩,⟨fo⟩,⟨gy⟩⟩
    ·replace c7:=Bool.eq_false_iff.mpr c7
     subst c7
     rw [if_neg (show ¬ (false=true) by decide)] at H
     simp only [Option.some.injEq,Prod.mk.injEq] at H
     obtain ⟨rfl,rfl,rfl⟩:=H
     go_wp2_with (first|(go_at_call 129;(with_reducible refine (eV.calls k1 g cm bW true t124 t125 w0 _ ?aT ?cw A4.out).mono ?_);(case aT=>repeat (first|(with_reducible first|exact eW.out|apply aD.alloc|apply aD.drewN|apply aD.drew|apply aD.gm|apply aD.gi)|exact eW.out));(case cw=>repeat (first|(with_reducible first|exact HB.out|apply aV|apply aN|apply bf|refine aZ ?_ (aD.ge eW.out))|exact HB.out));rintro e um ⟨rfl,hi,hb,hk⟩;replace HK:=aa.mk (bM.trans fo hk (.inl rfl));replace HB:=aa.mk (hb);replace eW:=aa.mk (hi);(try clear hb);(try clear hk);(try clear hi))|((with_reducible refine aK (f:=56) rfl ?_);refine bU (some 11) rfl rfl Tryz.func56 aq rfl #[.pointer (some ⟨g,0,none⟩),.int .u8 a1] rfl cz ?_;(with_reducible refine (bV.calls g t124 t125 a1 false t127 t128 w0 _ ?aT ?cw A6.out).mono ?_);(case aT=>repeat (first|(with_reducible first|exact eW.out|apply aD.alloc|apply aD.drewN|apply aD.drew|apply aD.gm|apply aD.gi)|exact eW.out));(case cw=>repeat (first|(with_reducible first|exact HB.out|apply aV|apply aN|apply bf|refine aZ ?_ (aD.ge eW.out))|exact HB.out));rintro e UJ ⟨rfl,hi,hb,hk⟩;refine ⟨_,rfl,?_⟩;replace HK:=aa.mk (bM.trans fo hk (.inl rfl));replace HB:=aa.mk (hb);replace eW:=aa.mk (hi);(try clear hb);(try clear hk);(try clear hi)))
     go_ret
     exact ⟨cH,gz,gy,fo⟩
   ·replace c5:=Bool.eq_false_iff.mpr c5
    subst c5
    rw [if_neg (show ¬ (false=true) by decide)] at H
    simp only [Option.some.injEq,Prod.mk.injEq] at H
    obtain ⟨rfl,rfl,rfl⟩:=H
    go_wp2_with (first|(go_at_call 129;(with_reducible refine (eV.calls k1 g cm bW false t124 t125 w0 _ ?aT ?cw A4.out).mono ?_);(case aT=>repeat (first|(with_reducible first|exact eW.out|apply aD.alloc|apply aD.drewN|apply aD.drew|apply aD.gm|apply aD.gi)|exact eW.out));(case cw=>repeat (first|(with_reducible first|exact HB.out|apply aV|apply aN|apply bf|refine aZ ?_ (aD.ge eW.out))|exact HB.out));rintro e Ld ⟨rfl,hi,hb,hk⟩;replace HK:=aa.mk (bM.trans fo hk (.inl rfl));replace HB:=aa.mk (hb);replace eW:=aa.mk (hi);(try clear hb);(try clear hk);(try clear hi)))
    go_ret
    exact ⟨cH,gz,gy,fo⟩
end Go.Proofs.YtokpnfljjjjikaaGreatDoor.mY
