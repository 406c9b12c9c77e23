import Derived.Test.YtokpnfljjjjikaaGreatDoorZo
import Derived.Test.YtokpnfljjjjikaaGreatDoorQCbx0
import Derived.Test.YtokpnfljjjjikaaGreatDoorQCbx3
import Derived.Test.YtokpnfljjjjikaaGreatDoorESmall
namespace Go.Proofs.YtokpnfljjjjikaaGreatDoor.pJ
open Go.RowKit Go.Proofs.aj.bV Go.Proofs.aj.gq Go.Proofs.aj.dB
attribute [local go_sem] jo jq kM kN iO iP jr jt
set_option linter.unusedVariables false
set_option linter.unusedSimpArgs false
def aT.l0:Nat→Int→ByteArray→Int→Option (ByteArray×Bool×ByteArray×Int)
 | 0,_,_,_ =>none
 |k + 1,x6,iB,gi=>if gi < (iB.size:Int) then (if 0≤gi then ((eZ.f (bt iB gi)).bind fun t110=>(if t110=true then (aT.l0 k x6 iB (wrap64 (gi + 1))) else (if 0≤x6 then (if x6≤gi then (if gi≤(iB.size:Int) then (some (iB.extract (x6:Int).toNat (gi:Int).toNat,decide (gi > x6),iB,gi)) else (none)) else (none)) else (none)))) else (none)) else (if 0≤x6 then (if x6≤gi then (if gi≤(iB.size:Int) then (some (iB.extract (x6:Int).toNat (gi:Int).toNat,decide (gi > x6),iB,gi)) else (none)) else (none)) else (none))
def aT.f (k:Nat) (fD:ByteArray) (cS:Int):Option (ByteArray×Bool×ByteArray×Int):=aT.l0 k cS fD cS
theorem aT.gf:∀ k,(∀ y0 y1 y2,cN (aT.l0 k y0 y1 y2) (aT.l0 (k + 1) y0 y1 y2))
 | 0=>fun _ _ _ r h=>by simp [aT.l0] at h
 |k + 1=>by
  have oo:=aT.gf k
  ·intro y0 y1 y2
   unfold aT.l0
   repeat' first
   |(with_reducible exact oo _ _ _)
   |(with_reducible exact cN.refl _)
   |(with_reducible exact cN.none _)
   |(with_reducible refine cN.ite ?_ ?_)
   |(with_reducible refine cN.bind ?_ (fun _ =>?_))
   |refine cN.ite ?_ ?_
   |refine cN.bind ?_ (fun _ =>?_)
theorem aT.mono:∀ a0 a1 k,cN (aT.f k a0 a1) (aT.f (k + 1) a0 a1):=by
 intro a0 a1 k
 have oo:=aT.gf k
 unfold aT.f
 repeat' first
  |(with_reducible exact oo _ _ _)
  |(with_reducible exact cN.refl _)
  |(with_reducible exact cN.none _)
  |(with_reducible refine cN.ite ?_ ?_)
  |(with_reducible refine cN.bind ?_ (fun _ =>?_))
  |refine cN.ite ?_ ?_
  |refine cN.bind ?_ (fun _ =>?_)
set_option maxHeartbeats 8000000 in
set_option maxRecDepth 100000 in
theorem aT.calls (k:Nat) (g:Nat) (fD:ByteArray) (cS:Int) (r1:ByteArray) (r2:Bool) (r3:ByteArray) (r4:Int) (w0 w:World) (hI:aA w0 w g fD cS) (hB:Below w0.heap.size w0 w) (h:aT.f k fD cS=some (r1,r2,r3,r4)):
 Calls Tryz.prog 119 #[.pointer (some ⟨g,0,none⟩),.func (.func 168) #[] #[]] w fun e w'=>e= .returned (.tuple #[.string r1,.bool r2])∧aA w0 w' g r3 r4∧Below w0.heap.size w0 w'∧bC w w' g none:=by
 have dI:=ah.mk hI
 have HK:=ah.mk (bC.refl w g none)
 have HL:=ah.mk hB.size
 clear hI
 have T9:=ah.mk hB.size
 have HB:=ah.mk hB
 clear hB
 have H:(aT.l0 k cS fD cS)=some (r1,r2,r3,r4):=h
 clear h
 have H':=ah.mk H
 clear H
 obtain ⟨xx,Vs⟩:=dI.out
 have uC:=dV xx
 have uD:=dM xx
 have uE:=aa xx 0
 have uF:=aa xx 1
 clear xx Vs
 go_enter Tryz.func119,Tryz.ntmps119
 go_wp2
 repeat (go_quiet (fail);try go_wp2)
 go_loopg [] k (fun kq w'=>∃ (bE:ByteArray) (aZ:Int),ah (aT.l0 kq cS bE aZ=some (r1,r2,r3,r4))∧ah (kq≤k)∧ah (aA w0 w' g bE aZ)∧ah (bC w w' g none)∧ah (Below w0.heap.size w0 w'))
 case atStart=>exact ⟨(fD),(cS),H',⟨Nat.le_refl _⟩,⟨iG⟩,⟨eP⟩,⟨iF⟩⟩
 case round=>
  clear H'
  try clear c1
  try clear p2
  try clear uC
  try clear uD
  try clear uE
  try clear uF
  obtain ⟨bE,aZ,HA,uX,dI,HK,HB⟩:=hrel
  cases gk with
  |zero=>exact absurd HA.out (by simp [aT.l0])
  |succ k1=>
   have H:=HA.out
   clear HA
   simp only [aT.l0] at H
   by_cases c4:aZ < (bE.size:Int)
   ·rw [if_pos c4] at H
    have o9:decide (aZ < (bE.size:Int))=true:=decide_eq_true c4
    clear c4
    by_cases c5: 0≤aZ
    ·rw [if_pos c5] at H
     have uB:decide (0≤aZ)=true:=decide_eq_true c5
     clear c5
     replace H:=Option.bind_eq_some_iff.mp H
     obtain ⟨t110,Hg,H⟩:=H
     replace H:(if t110=true then (aT.l0 k1 cS bE (wrap64 (aZ + 1))) else (if 0≤cS then (if cS≤aZ then (if aZ≤(bE.size:Int) then (some (bE.extract (cS:Int).toNat (aZ:Int).toNat,decide (aZ > cS),bE,aZ)) else (none)) else (none)) else (none)))=some (r1,r2,r3,r4):=H
     have A7:=ah.mk Hg
     clear Hg
     by_cases c8:t110=true
     ·subst c8
      have H1:(aT.l0 k1 cS bE (wrap64 (aZ + 1)))=some (r1,r2,r3,r4):=by rw [if_pos rfl] at H;exact H
      clear H
      have H:=H1
      clear H1
      have H':=ah.mk H
      clear H
      obtain ⟨pY,J1⟩:=dI.out
      have qF:=dV pY
      have qG:=dM pY
      have qH:=aa pY 0
      have qI:=aa pY 1
      clear pY J1
      have p6: 0≤(aZ:Int):=of_decide_eq_true cW
      have q6:aZ < (bE.size:Int):=of_decide_eq_true cW
      have hx6:=iw bE aZ
      replace p6:=eq_true p6
      replace q6:=eq_true q6
      go_wp2_with (first|(go_at_call 168;(with_reducible refine (eZ.calls (bt bE aZ) true _ A7.out).mono ?_);rintro e w' ⟨rfl,⟨nd,rfl⟩⟩;(try first|exact ⟨rfl,_,World.drewN_drewN _ _ _⟩|exact ⟨rfl,_,Eq.trans (World.drewN_drewN _ _ _) (congrArg (World.drewN _) (Nat.add_assoc _ _ _))⟩)))
      repeat (go_quiet (first|(go_at_call 168;(with_reducible refine (eZ.calls (bt bE aZ) true _ A7.out).mono ?_);rintro e w' ⟨rfl,⟨nd,rfl⟩⟩;(try first|exact ⟨rfl,_,World.drewN_drewN _ _ _⟩|exact ⟨rfl,_,Eq.trans (World.drewN_drewN _ _ _) (congrArg (World.drewN _) (Nat.add_assoc _ _ _))⟩)));try go_wp2_with (first|(go_at_call 168;(with_reducible refine (eZ.calls (bt bE aZ) true _ A7.out).mono ?_);rintro e w' ⟨rfl,⟨nd,rfl⟩⟩;(try first|exact ⟨rfl,_,World.drewN_drewN _ _ _⟩|exact ⟨rfl,_,Eq.trans (World.drewN_drewN _ _ _) (congrArg (World.drewN _) (Nat.add_assoc _ _ _))⟩))))
      go_roundg k1
      case measure=>have:=uX.out;omega
      case rel=>exact ⟨(bE),(wrap64 (aZ + 1)),H',⟨j6⟩,⟨iG⟩,⟨eP⟩,⟨iF⟩⟩
     ·replace c8:=Bool.eq_false_iff.mpr c8
      subst c8
      have H1:(if 0≤cS then (if cS≤aZ then (if aZ≤(bE.size:Int) then (some (bE.extract (cS:Int).toNat (aZ:Int).toNat,decide (aZ > cS),bE,aZ)) else (none)) else (none)) else (none))=some (r1,r2,r3,r4):=by rw [if_neg (show ¬ (false=true) by decide)] at H;exact H
      clear H
      have H:=H1
      clear H1
      by_cases c10: 0≤cS
      ·rw [if_pos c10] at H
       have pV:=eq_true c10
       have zm:decide (0≤cS)=true:=decide_eq_true c10
       clear c10
       by_cases c11:cS≤aZ
       ·rw [if_pos c11] at H
        have zn:=eq_true c11
        have L5:decide (cS≤aZ)=true:=decide_eq_true c11
        clear c11
        by_cases c12:aZ≤(bE.size:Int)
        ·rw [if_pos c12] at H
         have CN:=eq_true c12
         have L6:decide (aZ≤(bE.size:Int))=true:=decide_eq_true c12
         clear c12
         simp only [Option.some.injEq,Prod.mk.injEq] at H
         obtain ⟨rfl,rfl,rfl,rfl⟩:=H
         obtain ⟨qY,L8⟩:=dI.out
         have qN:=dV qY
         have qO:=dM qY
         have qP:=aa qY 0
         have qQ:=aa qY 1
         clear qY L8
         have p6: 0≤(aZ:Int):=of_decide_eq_true cW
         have q6:aZ < (bE.size:Int):=of_decide_eq_true cW
         have hx6:=iw bE aZ
         replace p6:=eq_true p6
         replace q6:=eq_true q6
         go_wp2_with (first|(go_at_call 168;(with_reducible refine (eZ.calls (bt bE aZ) false _ A7.out).mono ?_);rintro e w' ⟨rfl,⟨nd,rfl⟩⟩;(try first|exact ⟨rfl,_,World.drewN_drewN _ _ _⟩|exact ⟨rfl,_,Eq.trans (World.drewN_drewN _ _ _) (congrArg (World.drewN _) (Nat.add_assoc _ _ _))⟩)))
         repeat (go_quiet (first|(go_at_call 168;(with_reducible refine (eZ.calls (bt bE aZ) false _ A7.out).mono ?_);rintro e w' ⟨rfl,⟨nd,rfl⟩⟩;(try first|exact ⟨rfl,_,World.drewN_drewN _ _ _⟩|exact ⟨rfl,_,Eq.trans (World.drewN_drewN _ _ _) (congrArg (World.drewN _) (Nat.add_assoc _ _ _))⟩)));try go_wp2_with (first|(go_at_call 168;(with_reducible refine (eZ.calls (bt bE aZ) false _ A7.out).mono ?_);rintro e w' ⟨rfl,⟨nd,rfl⟩⟩;(try first|exact ⟨rfl,_,World.drewN_drewN _ _ _⟩|exact ⟨rfl,_,Eq.trans (World.drewN_drewN _ _ _) (congrArg (World.drewN _) (Nat.add_assoc _ _ _))⟩))))
         go_ret2
         exact ⟨cR,iG,iF,eP⟩
        ·rw [if_neg c12] at H
         exact absurd H bn
       ·rw [if_neg c11] at H
        exact absurd H bn
      ·rw [if_neg c10] at H
       exact absurd H bn
    ·rw [if_neg c5] at H
     exact absurd H bn
   ·rw [if_neg c4] at H
    have o9:decide (aZ < (bE.size:Int))=false:=decide_eq_false c4
    clear c4
    by_cases c14: 0≤cS
    ·rw [if_pos c14] at H
     have L9:=eq_true c14
     have Ma:decide (0≤cS)=true:=decide_eq_true c14
     clear c14
     by_cases c15:cS≤aZ
     ·rw [if_pos c15] at H
      have FD:=eq_true c15
      have Ru:decide (cS≤aZ)=true:=decide_eq_true c15
      clear c15
      by_cases c16:aZ≤(bE.size:Int)
      ·rw [if_pos c16] at H
       have aam:=eq_true c16
       have aan:decide (aZ≤(bE.size:Int))=true:=decide_eq_true c16
       clear c16
       simp only [Option.some.injEq,Prod.mk.injEq] at H
       obtain ⟨rfl,rfl,rfl,rfl⟩:=H
       obtain ⟨qZ,Mb⟩:=dI.out
       have tW:=dV qZ
       have tX:=dM qZ
       have tY:=aa qZ 0
       have tZ:=aa qZ 1
       clear qZ Mb
       go_wp2
       repeat (go_quiet (fail);try go_wp2)
       go_ret2
       exact ⟨cR,iG,iF,eP⟩
      ·rw [if_neg c16] at H
       exact absurd H bn
     ·rw [if_neg c15] at H
      exact absurd H bn
    ·rw [if_neg c14] at H
     exact absurd H bn
def fO.f (k:Nat) (fD:ByteArray) (cS:Int):Option (Bool×ByteArray×Int):=(aT.f k fD cS).bind fun lI=>(if lI.2.1=true then (if 0 < (lI.1.size:Int) then (if (bt lI.1 0)=45 then (some (false,lI.2.2.1,lI.2.2.2)) else (if 0≤(wrap64 ((lI.1.size:Int) - 1)) then (if (wrap64 ((lI.1.size:Int) - 1)) < (lI.1.size:Int) then (some (((bt lI.1 (wrap64 ((lI.1.size:Int) - 1))) != 45),lI.2.2.1,lI.2.2.2)) else (none)) else (none))) else (none)) else (some (false,lI.2.2.1,lI.2.2.2)))
theorem fO.mono:∀ a0 a1 k,cN (fO.f k a0 a1) (fO.f (k + 1) a0 a1):=by
 intro a0 a1 k
 unfold fO.f
 repeat' first
  |(with_reducible exact aT.mono _ _ _)
  |(with_reducible exact cN.refl _)
  |(with_reducible exact cN.none _)
  |(with_reducible refine cN.ite ?_ ?_)
  |(with_reducible refine cN.bind ?_ (fun _ =>?_))
  |refine cN.ite ?_ ?_
  |refine cN.bind ?_ (fun _ =>?_)
set_option maxHeartbeats 8000000 in
set_option maxRecDepth 100000 in
theorem fO.calls (k:Nat) (g:Nat) (fD:ByteArray) (cS:Int) (r1:Bool) (r2:ByteArray) (r3:Int) (w0 w:World) (hI:aA w0 w g fD cS) (hB:Below w0.heap.size w0 w) (h:fO.f k fD cS=some (r1,r2,r3)):
 Calls Tryz.prog 129 #[.pointer (some ⟨g,0,none⟩)] w fun e w'=>e= .returned (.bool r1)∧aA w0 w' g r2 r3∧Below w0.heap.size w0 w'∧bC w w' g none:=by
 have dI:=ah.mk hI
 have HK:=ah.mk (bC.refl w g none)
 have HL:=ah.mk hB.size
 clear hI
 have T9:=ah.mk hB.size
 have HB:=ah.mk hB
 clear hB
 have H:((aT.f k fD cS).bind fun lI=>(if lI.2.1=true then (if 0 < (lI.1.size:Int) then (if (bt lI.1 0)=45 then (some (false,lI.2.2.1,lI.2.2.2)) else (if 0≤(wrap64 ((lI.1.size:Int) - 1)) then (if (wrap64 ((lI.1.size:Int) - 1)) < (lI.1.size:Int) then (some (((bt lI.1 (wrap64 ((lI.1.size:Int) - 1))) != 45),lI.2.2.1,lI.2.2.2)) else (none)) else (none))) else (none)) else (some (false,lI.2.2.1,lI.2.2.2))))=some (r1,r2,r3):=h
 clear h
 replace H:=Option.bind_eq_some_iff.mp H
 obtain ⟨⟨t111,t112,t113,t114⟩,nU,H⟩:=H
 replace H:(if t112=true then (if 0 < (t111.size:Int) then (if (bt t111 0)=45 then (some (false,t113,t114)) else (if 0≤(wrap64 ((t111.size:Int) - 1)) then (if (wrap64 ((t111.size:Int) - 1)) < (t111.size:Int) then (some (((bt t111 (wrap64 ((t111.size:Int) - 1))) != 45),t113,t114)) else (none)) else (none))) else (none)) else (some (false,t113,t114)))=some (r1,r2,r3):=H
 have A2:=ah.mk nU
 clear nU
 by_cases c3:t112=true
 ·subst c3
  have H1:(if 0 < (t111.size:Int) then (if (bt t111 0)=45 then (some (false,t113,t114)) else (if 0≤(wrap64 ((t111.size:Int) - 1)) then (if (wrap64 ((t111.size:Int) - 1)) < (t111.size:Int) then (some (((bt t111 (wrap64 ((t111.size:Int) - 1))) != 45),t113,t114)) else (none)) else (none))) else (none))=some (r1,r2,r3):=by rw [if_pos rfl] at H;exact H
  clear H
  have H:=H1
  clear H1
  by_cases c4: 0 < (t111.size:Int)
  ·rw [if_pos c4] at H
   have o9:decide (0 < (t111.size:Int))=true:=decide_eq_true c4
   have GK:decide (0 < t111.size)=true:=decide_eq_true aq
   clear c4
   by_cases c6:(bt t111 0)=45
   ·rw [if_pos c6] at H
    have pP:((bt t111 0) == 45)=true:=beq_iff_eq.mpr c6
    have zC:((bt t111 0) != 45)=false:=bne_eq_false_iff_eq.mpr c6
    clear c6
    simp only [Option.some.injEq,Prod.mk.injEq] at H
    obtain ⟨rfl,rfl,rfl⟩:=H
    go_enter Tryz.func129,Tryz.ntmps129
    go_wp2_with (first|((with_reducible refine aQ (f:=119) rfl ?_);refine cu (some 7) rfl rfl Tryz.func119 av rfl #[.pointer (some ⟨g,0,none⟩),.func (.func 168) #[] #[]] rfl cT ?_;(with_reducible refine (aT.calls k g fD cS t111 true t113 t114 w0 _ ?aX ?bT A2.out).mono ?_);(case aX=>repeat (first|(with_reducible first|exact dI.out|apply aA.alloc|apply aA.drewN|apply aA.drew|apply aA.fZ|apply aA.fV)|exact dI.out));(case bT=>repeat (first|(with_reducible first|exact HB.out|apply aB|apply aC|apply br|refine bh ?_ (aA.ge dI.out))|exact HB.out));rintro e w7 ⟨rfl,hi,hb,hk⟩;refine ⟨_,rfl,?_⟩;have bB:=ah.mk (bC.trans eP hk (.inl rfl));have bL:=ah.mk (hb);have bY:=ah.mk (hi);clear HK;clear HB;clear dI;have HK:=bB;have HB:=bL;have dI:=bY;clear bB bL bY;(try clear hb);(try clear hb2);(try clear hk);(try clear hi);have p5: 0≤(0:Int):=aq;have q5: 0 < t111.size:=(by have:(0:Int) < (t111.size:Int):=of_decide_eq_true cW;omega);have hx5:∀ h: 0 < t111.size,((t111[0]'h).toNat:Int)=bt t111 0:=iw t111 0;clear p5;have qi5:(0 < (t111.size:Int))=True:=eq_true (of_decide_eq_true cW);replace q5:=eq_true q5))
    go_ret
    exact ⟨cR,iG,iF,eP⟩
   ·rw [if_neg c6] at H
    have pP:((bt t111 0) == 45)=false:=beq_eq_false_iff_ne.mpr c6
    have zC:((bt t111 0) != 45)=true:=bne_iff_ne.mpr c6
    obtain ⟨Vt,Vu⟩:∃ j_:Int,(wrap64 ((t111.size:Int) - 1))=j_ :=⟨_,rfl⟩
    replace H:(if 0≤(Vt) then (if (Vt) < (t111.size:Int) then (some (((bt t111 (Vt)) != 45),t113,t114)) else (none)) else (none))=some (r1,r2,r3):=by first|(rw [Vu] at H;exact H)|(simp only [Vu] at H ⊢;exact H)
    (try rw [Vu] at A2)
    have aoh:(IntKind.i64.wrap ((t111.size:Int) - 1))=Vt:=(dx _).trans Vu
    by_cases c9: 0≤(Vt)
    ·rw [if_pos c9] at H
     have Ta:decide (0≤(Vt))=true:=decide_eq_true c9
     clear c9
     by_cases c10:(Vt) < (t111.size:Int)
     ·rw [if_pos c10] at H
      have pV:decide ((Vt) < (t111.size:Int))=true:=decide_eq_true c10
      clear c10
      simp only [Option.some.injEq,Prod.mk.injEq] at H
      obtain ⟨rfl,rfl,rfl⟩:=H
      go_enter Tryz.func129,Tryz.ntmps129
      go_wp2_with (first|((with_reducible refine aQ (f:=119) rfl ?_);refine cu (some 7) rfl rfl Tryz.func119 av rfl #[.pointer (some ⟨g,0,none⟩),.func (.func 168) #[] #[]] rfl cT ?_;(with_reducible refine (aT.calls k g fD cS t111 true t113 t114 w0 _ ?aX ?bT A2.out).mono ?_);(case aX=>repeat (first|(with_reducible first|exact dI.out|apply aA.alloc|apply aA.drewN|apply aA.drew|apply aA.fZ|apply aA.fV)|exact dI.out));(case bT=>repeat (first|(with_reducible first|exact HB.out|apply aB|apply aC|apply br|refine bh ?_ (aA.ge dI.out))|exact HB.out));rintro e Rv ⟨rfl,hi,hb,hk⟩;refine ⟨_,rfl,?_⟩;have bB:=ah.mk (bC.trans eP hk (.inl rfl));have bL:=ah.mk (hb);have bY:=ah.mk (hi);clear HK;clear HB;clear dI;have HK:=bB;have HB:=bL;have dI:=bY;clear bB bL bY;(try clear hb);(try clear hb2);(try clear hk);(try clear hi);have p5: 0≤(0:Int):=aq;have q5: 0 < t111.size:=(by have:(0:Int) < (t111.size:Int):=of_decide_eq_true cW;omega);have hx5:∀ h: 0 < t111.size,((t111[0]'h).toNat:Int)=bt t111 0:=iw t111 0;clear p5;have qi5:(0 < (t111.size:Int))=True:=eq_true (of_decide_eq_true cW);replace q5:=eq_true q5;have p11: 0≤((Vt):Int):=of_decide_eq_true cW;have q11:(Vt) < (t111.size:Int):=of_decide_eq_true cW;have aqi:=iw t111 (Vt);replace p11:=eq_true p11;replace q11:=eq_true q11))
      go_ret
      exact ⟨by first|rfl|(simp [lX,lY]<;>rfl)|(simp only [← Vu];first|rfl|(simp [lX,lY]<;>rfl))|(simp [*,lX,lY]<;>rfl),iG,iF,eP⟩
     ·rw [if_neg c10] at H
      exact absurd H bn
    ·rw [if_neg c9] at H
     exact absurd H bn
  ·rw [if_neg c4] at H
   exact absurd H bn
 ·replace c3:=Bool.eq_false_iff.mpr c3
  subst c3
  have H1:(some (false,t113,t114))=some (r1,r2,r3):=by rw [if_neg (show ¬ (false=true) by decide)] at H;exact H
  clear H
  have H:=H1
  clear H1
  simp only [Option.some.injEq,Prod.mk.injEq] at H
  obtain ⟨rfl,rfl,rfl⟩:=H
  go_enter Tryz.func129,Tryz.ntmps129
  go_wp2_with (first|((with_reducible refine aQ (f:=119) rfl ?_);refine cu (some 7) rfl rfl Tryz.func119 av rfl #[.pointer (some ⟨g,0,none⟩),.func (.func 168) #[] #[]] rfl cT ?_;(with_reducible refine (aT.calls k g fD cS t111 false t113 t114 w0 _ ?aX ?bT A2.out).mono ?_);(case aX=>repeat (first|(with_reducible first|exact dI.out|apply aA.alloc|apply aA.drewN|apply aA.drew|apply aA.fZ|apply aA.fV)|exact dI.out));(case bT=>repeat (first|(with_reducible first|exact HB.out|apply aB|apply aC|apply br|refine bh ?_ (aA.ge dI.out))|exact HB.out));rintro e mA ⟨rfl,hi,hb,hk⟩;refine ⟨_,rfl,?_⟩;have bB:=ah.mk (bC.trans eP hk (.inl rfl));have bL:=ah.mk (hb);have bY:=ah.mk (hi);clear HK;clear HB;clear dI;have HK:=bB;have HB:=bL;have dI:=bY;clear bB bL bY;(try clear hb);(try clear hb2);(try clear hk);(try clear hi)))
  go_ret
  exact ⟨cR,iG,iF,eP⟩
def aW.l0:Nat→Int→ByteArray→Int→Option (Bool×ByteArray×Int)
 | 0,_,_,_ =>none
 |k + 1,x1,iB,gi=>(fO.f k iB gi).bind fun Mc=>(if Mc.1=true then ((bq.f Mc.2.1 Mc.2.2 x1).bind fun q8=>(if q8.1=true then (aW.l0 k x1 q8.2.1 q8.2.2) else (some (true,q8.2.1,q8.2.2)))) else (some (false,Mc.2.1,Mc.2.2)))
def aW.f (k:Nat) (fD:ByteArray) (cS:Int) (a1:Int):Option (Bool×ByteArray×Int):=aW.l0 k a1 fD cS
theorem aW.gf:∀ k,(∀ y0 y1 y2,cN (aW.l0 k y0 y1 y2) (aW.l0 (k + 1) y0 y1 y2))
 | 0=>fun _ _ _ r h=>by simp [aW.l0] at h
 |k + 1=>by
  have oo:=aW.gf k
  ·intro y0 y1 y2
   unfold aW.l0
   repeat' first
   |(with_reducible exact oo _ _ _)
   |(with_reducible exact fO.mono _ _ _)
   |(with_reducible exact cN.refl _)
   |(with_reducible exact cN.none _)
   |(with_reducible refine cN.ite ?_ ?_)
   |(with_reducible refine cN.bind ?_ (fun _ =>?_))
   |refine cN.ite ?_ ?_
   |refine cN.bind ?_ (fun _ =>?_)
theorem aW.mono:∀ a0 a1 a2 k,cN (aW.f k a0 a1 a2) (aW.f (k + 1) a0 a1 a2):=by
 intro a0 a1 a2 k
 have oo:=aW.gf k
 unfold aW.f
 repeat' first
  |(with_reducible exact oo _ _ _)
  |(with_reducible exact fO.mono _ _ _)
  |(with_reducible exact cN.refl _)
  |(with_reducible exact cN.none _)
  |(with_reducible refine cN.ite ?_ ?_)
  |(with_reducible refine cN.bind ?_ (fun _ =>?_))
  |refine cN.ite ?_ ?_
  |refine cN.bind ?_ (fun _ =>?_)
set_option maxHeartbeats 8000000 in
set_option maxRecDepth 100000 in
theorem aW.calls (k:Nat) (g:Nat) (fD:ByteArray) (cS:Int) (a1:Int) (r1:Bool) (r2:ByteArray) (r3:Int) (w0 w:World) (hI:aA w0 w g fD cS) (hB:Below w0.heap.size w0 w) (h:aW.f k fD cS a1=some (r1,r2,r3)):
 Calls Tryz.prog 67 #[.pointer (some ⟨g,0,none⟩),.int .u8 a1,.func (.func 129) #[.pointer (some ⟨g,0,none⟩)] #[]] w fun e w'=>e= .returned (.bool r1)∧aA w0 w' g r2 r3∧Below w0.heap.size w0 w'∧bC w w' g none:=by
 have dI:=ah.mk hI
 have HK:=ah.mk (bC.refl w g none)
 have HL:=ah.mk hB.size
 clear hI
 have T9:=ah.mk hB.size
 have HB:=ah.mk hB
 clear hB
 have H:(aW.l0 k a1 fD cS)=some (r1,r2,r3):=h
 clear h
 have H':=ah.mk H
 clear H
 go_enter Tryz.func67,Tryz.ntmps67
 go_wp2
 go_loopg [] k (fun kq w'=>∃ (bE:ByteArray) (aZ:Int),ah (aW.l0 kq a1 bE aZ=some (r1,r2,r3))∧ah (kq≤k)∧ah (aA w0 w' g bE aZ)∧ah (bC w w' g none)∧ah (Below w0.heap.size w0 w'))
 case atStart=>exact ⟨(fD),(cS),H',⟨Nat.le_refl _⟩,⟨iG⟩,⟨eP⟩,⟨iF⟩⟩
 case round=>
  clear H'
  try clear p2
  obtain ⟨bE,aZ,HA,uX,dI,HK,HB⟩:=hrel
  cases gk with
  |zero=>exact absurd HA.out (by simp [aW.l0])
  |succ k1=>
   have H:=HA.out
   clear HA
   simp only [aW.l0] at H
   replace H:=Option.bind_eq_some_iff.mp H
   obtain ⟨⟨t115,t116,t117⟩,Bg,H⟩:=H
   replace H:(if t115=true then ((bq.f t116 t117 a1).bind fun q8=>(if q8.1=true then (aW.l0 k1 a1 q8.2.1 q8.2.2) else (some (true,q8.2.1,q8.2.2)))) else (some (false,t116,t117)))=some (r1,r2,r3):=H
   have A4:=ah.mk Bg
   clear Bg
   by_cases c5:t115=true
   ·subst c5
    have H1:((bq.f t116 t117 a1).bind fun q8=>(if q8.1=true then (aW.l0 k1 a1 q8.2.1 q8.2.2) else (some (true,q8.2.1,q8.2.2))))=some (r1,r2,r3):=by rw [if_pos rfl] at H;exact H
    clear H
    have H:=H1
    clear H1
    replace H:=Option.bind_eq_some_iff.mp H
    obtain ⟨⟨t118,t119,t120⟩,xw,H⟩:=H
    replace H:(if t118=true then (aW.l0 k1 a1 t119 t120) else (some (true,t119,t120)))=some (r1,r2,r3):=H
    have A6:=ah.mk xw
    clear xw
    by_cases c7:t118=true
    ·subst c7
     have H1:(aW.l0 k1 a1 t119 t120)=some (r1,r2,r3):=by rw [if_pos rfl] at H;exact H
     clear H
     have H:=H1
     clear H1
     have H':=ah.mk H
     clear H
     go_wp2_with (first|(go_at_call 129;(with_reducible refine (fO.calls k1 g bE aZ true t116 t117 w0 _ ?aX ?bT A4.out).mono ?_);(case aX=>repeat (first|(with_reducible first|exact dI.out|apply aA.alloc|apply aA.drewN|apply aA.drew|apply aA.fZ|apply aA.fV)|exact dI.out));(case bT=>repeat (first|(with_reducible first|exact HB.out|apply aB|apply aC|apply br|refine bh ?_ (aA.ge dI.out))|exact HB.out));rintro e w8 ⟨rfl,hi,hb,hk⟩;have bB:=ah.mk (bC.trans eP hk (.inl rfl));have bL:=ah.mk (hb);have bY:=ah.mk (hi);clear HK;clear HB;clear dI;have HK:=bB;have HB:=bL;have dI:=bY;clear bB bL bY;(try clear hb);(try clear hb2);(try clear hk);(try clear hi))|((with_reducible refine aQ (f:=56) rfl ?_);refine cu (some 11) rfl rfl Tryz.func56 av rfl #[.pointer (some ⟨g,0,none⟩),.int .u8 a1] rfl cT ?_;(with_reducible refine (bq.calls g t116 t117 a1 true t119 t120 w0 _ ?aX ?bT A6.out).mono ?_);(case aX=>repeat (first|(with_reducible first|exact dI.out|apply aA.alloc|apply aA.drewN|apply aA.drew|apply aA.fZ|apply aA.fV)|exact dI.out));(case bT=>repeat (first|(with_reducible first|exact HB.out|apply aB|apply aC|apply br|refine bh ?_ (aA.ge dI.out))|exact HB.out));rintro e w9 ⟨rfl,hi,hb,hk⟩;refine ⟨_,rfl,?_⟩;have bB:=ah.mk (bC.trans eP hk (.inl rfl));have bL:=ah.mk (hb);have bY:=ah.mk (hi);clear HK;clear HB;clear dI;have HK:=bB;have HB:=bL;have dI:=bY;clear bB bL bY;(try clear hb);(try clear hb2);(try clear hk);(try clear hi)))
     go_roundg k1
     case measure=>have:=uX.out;omega
     case rel=>exact ⟨(t119),(t120),H',⟨j6⟩,⟨iG⟩,⟨eP⟩,⟨iF⟩⟩
    ·replace c7:=Bool.eq_false_iff.mpr c7
     subst c7
     have H1:(some (true,t119,t120))=some (r1,r2,r3):=by rw [if_neg (show ¬ (false=true) by decide)] at H;exact H
     clear H
     have H:=H1
     clear H1
     simp only [Option.some.injEq,Prod.mk.injEq] at H
     obtain ⟨rfl,rfl,rfl⟩:=H
     go_wp2_with (first|(go_at_call 129;(with_reducible refine (fO.calls k1 g bE aZ true t116 t117 w0 _ ?aX ?bT A4.out).mono ?_);(case aX=>repeat (first|(with_reducible first|exact dI.out|apply aA.alloc|apply aA.drewN|apply aA.drew|apply aA.fZ|apply aA.fV)|exact dI.out));(case bT=>repeat (first|(with_reducible first|exact HB.out|apply aB|apply aC|apply br|refine bh ?_ (aA.ge dI.out))|exact HB.out));rintro e uk ⟨rfl,hi,hb,hk⟩;have bB:=ah.mk (bC.trans eP hk (.inl rfl));have bL:=ah.mk (hb);have bY:=ah.mk (hi);clear HK;clear HB;clear dI;have HK:=bB;have HB:=bL;have dI:=bY;clear bB bL bY;(try clear hb);(try clear hb2);(try clear hk);(try clear hi))|((with_reducible refine aQ (f:=56) rfl ?_);refine cu (some 11) rfl rfl Tryz.func56 av rfl #[.pointer (some ⟨g,0,none⟩),.int .u8 a1] rfl cT ?_;(with_reducible refine (bq.calls g t116 t117 a1 false t119 t120 w0 _ ?aX ?bT A6.out).mono ?_);(case aX=>repeat (first|(with_reducible first|exact dI.out|apply aA.alloc|apply aA.drewN|apply aA.drew|apply aA.fZ|apply aA.fV)|exact dI.out));(case bT=>repeat (first|(with_reducible first|exact HB.out|apply aB|apply aC|apply br|refine bh ?_ (aA.ge dI.out))|exact HB.out));rintro e w11 ⟨rfl,hi,hb,hk⟩;refine ⟨_,rfl,?_⟩;have bB:=ah.mk (bC.trans eP hk (.inl rfl));have bL:=ah.mk (hb);have bY:=ah.mk (hi);clear HK;clear HB;clear dI;have HK:=bB;have HB:=bL;have dI:=bY;clear bB bL bY;(try clear hb);(try clear hb2);(try clear hk);(try clear hi)))
     go_ret
     exact ⟨cR,iG,iF,eP⟩
   ·replace c5:=Bool.eq_false_iff.mpr c5
    subst c5
    have H1:(some (false,t116,t117))=some (r1,r2,r3):=by rw [if_neg (show ¬ (false=true) by decide)] at H;exact H
    clear H
    have H:=H1
    clear H1
    simp only [Option.some.injEq,Prod.mk.injEq] at H
    obtain ⟨rfl,rfl,rfl⟩:=H
    go_wp2_with (first|(go_at_call 129;(with_reducible refine (fO.calls k1 g bE aZ false t116 t117 w0 _ ?aX ?bT A4.out).mono ?_);(case aX=>repeat (first|(with_reducible first|exact dI.out|apply aA.alloc|apply aA.drewN|apply aA.drew|apply aA.fZ|apply aA.fV)|exact dI.out));(case bT=>repeat (first|(with_reducible first|exact HB.out|apply aB|apply aC|apply br|refine bh ?_ (aA.ge dI.out))|exact HB.out));rintro e Rv ⟨rfl,hi,hb,hk⟩;have bB:=ah.mk (bC.trans eP hk (.inl rfl));have bL:=ah.mk (hb);have bY:=ah.mk (hi);clear HK;clear HB;clear dI;have HK:=bB;have HB:=bL;have dI:=bY;clear bB bL bY;(try clear hb);(try clear hb2);(try clear hk);(try clear hi)))
    go_ret
    exact ⟨cR,iG,iF,eP⟩
def cm.f (k:Nat) (fD:ByteArray) (cS:Int):Option (ByteArray×Bool×ByteArray×Int):=(aW.f k fD cS 46).bind fun rq=>(if 0≤cS then (if cS≤rq.2.2 then (if rq.2.2≤(rq.2.1.size:Int) then ((cH.f (rq.2.1.extract (cS:Int).toNat (rq.2.2:Int).toNat)).bind fun t124=>(some (t124,rq.1,rq.2.1,rq.2.2))) else (none)) else (none)) else (none))
theorem cm.mono:∀ a0 a1 k,cN (cm.f k a0 a1) (cm.f (k + 1) a0 a1):=by
 intro a0 a1 k
 unfold cm.f
 repeat' first
  |(with_reducible exact aW.mono _ _ _ _)
  |(with_reducible exact cN.refl _)
  |(with_reducible exact cN.none _)
  |(with_reducible refine cN.ite ?_ ?_)
  |(with_reducible refine cN.bind ?_ (fun _ =>?_))
  |refine cN.ite ?_ ?_
  |refine cN.bind ?_ (fun _ =>?_)
def cm.T3:Bool×List (List Nat×List Nat):=(true,[([],[]),([0],[0]),([1],[1]),([2],[2]),([],[]),([],[]),([5],[5]),([6],[6]),([7],[7]),([3,4,8],[3,4,8]),([9],[9]),([],[]),([10,10,0,1,2,3,4,5,6,7,8,9,10],[10]),([11,12,0,1,2,3,4,5,6,7,8,9,10,11,12],[11])])
def cm.B3:List Nat:=[0,1,3,7,0,0,32,96,224,511,1023,0,2047,8191]
theorem cm.amr:sH .any (opsOf Tryz.f80 3)=cm.T3:=by kernel_rfl
theorem cm.ad0:u5 cm.T3.2 cm.B3=true:=by kernel_rfl
set_option maxHeartbeats 8000000 in
set_option maxRecDepth 100000 in
theorem cm.calls (k:Nat) (g:Nat) (fD:ByteArray) (cS:Int) (r1:ByteArray) (r2:Bool) (r3:ByteArray) (r4:Int) (w0 w:World) (hI:aA w0 w g fD cS) (hB:Below w0.heap.size w0 w) (h:cm.f k fD cS=some (r1,r2,r3,r4)):
 Calls Tryz.prog 80 #[.pointer (some ⟨g,0,none⟩)] w fun e w'=>e= .returned (.tuple #[.string r1,.bool r2])∧aA w0 w' g r3 r4∧Below w0.heap.size w0 w'∧bC w w' g none:=by
 have dI:=ah.mk hI
 have HK:=ah.mk (bC.refl w g none)
 have HL:=ah.mk hB.size
 clear hI
 have T9:=ah.mk hB.size
 have HB:=ah.mk hB
 clear hB
 have H:((aW.f k fD cS 46).bind fun rq=>(if 0≤cS then (if cS≤rq.2.2 then (if rq.2.2≤(rq.2.1.size:Int) then ((cH.f (rq.2.1.extract (cS:Int).toNat (rq.2.2:Int).toNat)).bind fun t124=>(some (t124,rq.1,rq.2.1,rq.2.2))) else (none)) else (none)) else (none)))=some (r1,r2,r3,r4):=h
 clear h
 replace H:=Option.bind_eq_some_iff.mp H
 obtain ⟨⟨t121,t122,t123⟩,nU,H⟩:=H
 replace H:(if 0≤cS then (if cS≤t123 then (if t123≤(t122.size:Int) then ((cH.f (t122.extract (cS:Int).toNat (t123:Int).toNat)).bind fun t124=>(some (t124,t121,t122,t123))) else (none)) else (none)) else (none))=some (r1,r2,r3,r4):=H
 have A2:=ah.mk nU
 clear nU
 by_cases c3: 0≤cS
 ·rw [if_pos c3] at H
  have pX:=eq_true c3
  have GL:decide (0≤cS)=true:=decide_eq_true c3
  clear c3
  by_cases c4:cS≤t123
  ·rw [if_pos c4] at H
   have o9:=eq_true c4
   have GK:decide (cS≤t123)=true:=decide_eq_true c4
   clear c4
   by_cases c5:t123≤(t122.size:Int)
   ·rw [if_pos c5] at H
    have uB:=eq_true c5
    have Vv:decide (t123≤(t122.size:Int))=true:=decide_eq_true c5
    clear c5
    replace H:=Option.bind_eq_some_iff.mp H
    obtain ⟨t124,xw,H⟩:=H
    replace H:(some (t124,t121,t122,t123))=some (r1,r2,r3,r4):=H
    have A6:=ah.mk xw
    clear xw
    simp only [Option.some.injEq,Prod.mk.injEq] at H
    obtain ⟨rfl,rfl,rfl,rfl⟩:=H
    obtain ⟨Fu,abx⟩:=dI.out
    have Fv:=dV Fu
    have Fw:=dM Fu
    have Fx:=aa Fu 0
    have Fy:=aa Fu 1
    clear Fu abx
    go_enter Tryz.func80,Tryz.ntmps80
    try go_wp2_with (first|((with_reducible refine aQ (f:=67) rfl ?_);refine cu (some 13) rfl rfl Tryz.func67 av rfl #[.pointer (some ⟨g,0,none⟩),.int .u8 46,.func (.func 129) #[.pointer (some ⟨g,0,none⟩)] #[]] rfl cT ?_;(with_reducible refine (aW.calls k g fD cS 46 t121 t122 t123 w0 _ ?aX ?bT A2.out).mono ?_);(case aX=>repeat (first|(with_reducible first|exact dI.out|apply aA.alloc|apply aA.drewN|apply aA.drew|apply aA.fZ|apply aA.fV)|exact dI.out));(case bT=>repeat (first|(with_reducible first|exact HB.out|apply aB|apply aC|apply br|refine bh ?_ (aA.ge dI.out))|exact HB.out));rintro e w8 ⟨rfl,hi,hb,hk⟩;refine ⟨_,rfl,?_⟩;have bB:=ah.mk (bC.trans eP hk (.inl rfl));have bL:=ah.mk (hb);have bY:=ah.mk (hi);clear HK;clear HB;clear dI;have HK:=bB;have HB:=bL;have dI:=bY;clear bB bL bY;(try clear hb);(try clear hb2);(try clear hk);(try clear hi)))
    have bB:=ah.mk (aA.drew dI.out)
    have bL:=ah.mk (xP HK.out)
    have bY:=ah.mk (br HB.out)
    clear dI
    clear HK
    clear HB
    have dI:=bB
    have HK:=bL
    have HB:=bY
    clear bB bL bY
    refine BW (n:=14) (S:=fun w'=>w'.cell? ⟨g,0,none⟩=some (.string t122)∧w'.cell? ⟨g,1,none⟩=some (.int .i64 t123)) (ds:=[]) #[false,false,false,false,false,false,false,false,false,false,false,false,false,false] av (by rfl) (by rfl) ⟨dV dI.out.1,dM dI.out.1⟩ (fun hHeld=>?_);refine uJ cm.amr cm.ad0 (fun mB OC=>?_)
    generalize w8.drew=w9 at dI HK HB hHeld ⊢
    refine eY (i:=0) (N:=some 14) (v:=?_) (a':=?_) #[true,false,false,false,false,false,false,false,false,false,false,false,false,false] rfl rfl (fY mB.out av) (fun _ _ _ h=>h) (Or.inl ⟨by rfl,?_⟩) ?_ ?_
    rotate_left
    ·intro w'
     go_simp
     with_reducible rfl
    rotate_left
    ·simp only [Act.put,List.setIfInBounds_toArray,List.set_cons_zero,List.set_cons_succ,dx,dA]
     rfl
    refine eY (i:=1) (N:=some 15) (v:=?_) (a':=?_) #[true,true,false,false,false,false,false,false,false,false,false,false,false,false] rfl rfl (fY mB.out av) (fun _ _ _ h=>h) (Or.inl ⟨by rfl,?_⟩) ?_ ?_
    rotate_left
    ·intro w'
     go_simp
     with_reducible rfl
    rotate_left
    ·simp only [Act.put,List.setIfInBounds_toArray,List.set_cons_zero,List.set_cons_succ,dx,dA]
     rfl
    refine eY (i:=2) (N:=some 16) (v:=?_) (a':=?_) #[true,true,true,false,false,false,false,false,false,false,false,false,false,false] rfl rfl (fY mB.out av) (fun _ _ _ h=>h) (Or.inl ⟨by rfl,?_⟩) ?_ ?_
    rotate_left
    ·intro w'
     go_simp
     with_reducible rfl
    rotate_left
    ·simp only [Act.put,List.setIfInBounds_toArray,List.set_cons_zero,List.set_cons_succ,dx,dA]
     rfl
    refine eY (i:=4) (N:=some 18) (v:=?_) (a':=?_) #[true,true,true,false,true,false,false,false,false,false,false,false,false,false] rfl rfl (fY mB.out av) (fun _ _ _ h=>h) (Or.inl ⟨by rfl,?_⟩) ?_ ?_
    rotate_left
    ·intro w'
     go_simp
     with_reducible rfl
    rotate_left
    ·simp only [Act.put,List.setIfInBounds_toArray,List.set_cons_zero,List.set_cons_succ,dx,dA]
     rfl
    refine eY (i:=5) (N:=some 19) (v:=?_) (a':=?_) #[true,true,true,false,true,true,false,false,false,false,false,false,false,false] rfl rfl (fY mB.out av) (fun _ _ _ h=>h) (Or.inl ⟨by rfl,?_⟩) ?_ ?_
    rotate_left
    ·intro w'
     go_simp
     with_reducible rfl
    rotate_left
    ·simp only [Act.put,List.setIfInBounds_toArray,List.set_cons_zero,List.set_cons_succ,dx,dA]
     rfl
    refine eY (i:=6) (N:=some 20) (v:=?_) (a':=?_) #[true,true,true,false,true,true,true,false,false,false,false,false,false,false] rfl rfl (fY mB.out av) (fun _ _ _ h=>h) (Or.inl ⟨by rfl,?_⟩) ?_ ?_
    rotate_left
    ·intro w'
     go_simp
     with_reducible rfl
    rotate_left
    ·simp only [Act.put,List.setIfInBounds_toArray,List.set_cons_zero,List.set_cons_succ,dx,dA]
     rfl
    refine eY (i:=7) (N:=some 21) (v:=?_) (a':=?_) #[true,true,true,false,true,true,true,true,false,false,false,false,false,false] rfl rfl (fY mB.out av) (fun _ _ _ h=>h) (Or.inl ⟨by rfl,?_⟩) ?_ ?_
    rotate_left
    ·intro w'
     go_simp
     with_reducible rfl
    rotate_left
    ·simp only [Act.put,List.setIfInBounds_toArray,List.set_cons_zero,List.set_cons_succ,dx,dA]
     rfl
    refine eY (i:=11) (N:=some 25) (v:=?_) (a':=?_) #[true,true,true,false,true,true,true,true,false,false,false,true,false,false] rfl rfl (fY mB.out av) (fun _ _ _ h=>h) (Or.inl ⟨by rfl,?_⟩) ?_ ?_
    rotate_left
    ·intro w'
     go_simp
     with_reducible rfl
    rotate_left
    ·simp only [Act.put,List.setIfInBounds_toArray,List.set_cons_zero,List.set_cons_succ,dx,dA]
     rfl
    refine nE (i:=3) (N:=some 17) (v:=?_) (a':=?_) #[true,true,true,true,true,true,true,true,false,false,false,true,false,false] rfl rfl (nG mB.out OC.out av) (fun _ _ _ h=>h) (Or.inl ⟨by rfl,?_⟩) hHeld ?_ ?_
    rotate_left
    ·rintro w' ⟨s0,s1⟩
     go_simp
     with_reducible rfl
    rotate_left
    ·simp only [Act.put,List.setIfInBounds_toArray,List.set_cons_zero,List.set_cons_succ,dx,dA]
     rfl
    refine nE (i:=8) (N:=some 22) (v:=?_) (a':=?_) #[true,true,true,true,true,true,true,true,true,false,false,true,false,false] rfl rfl (nG mB.out OC.out av) (fun _ _ _ h=>h) (Or.inl ⟨by rfl,?_⟩) hHeld ?_ ?_
    rotate_left
    ·rintro w' ⟨s0,s1⟩
     go_simp
     with_reducible rfl
    rotate_left
    ·simp only [Act.put,List.setIfInBounds_toArray,List.set_cons_zero,List.set_cons_succ,dx,dA]
     rfl
    refine eY (i:=9) (N:=some 23) (v:=?_) (a':=?_) #[true,true,true,true,true,true,true,true,true,true,false,true,false,false] rfl rfl (fY mB.out av) (fun _ _ _ h=>h) (Or.inl ⟨by rfl,?_⟩) ?_ ?_
    rotate_left
    ·intro w'
     go_simp
     with_reducible rfl
    rotate_left
    ·simp only [Act.put,List.setIfInBounds_toArray,List.set_cons_zero,List.set_cons_succ,dx,dA]
     rfl
    refine IY (i:=10) (N:=some 24) #[true,true,true,true,true,true,true,true,true,true,true,true,false,false] rfl rfl (xd mB.out av) bU (fun K hK=>?_)
    refine CD Tryz.func81 av rfl #[.string (t122.extract (cS:Int).toNat (t123:Int).toNat)] (by rfl) rfl rfl cT ?_
    with_reducible refine (cH.calls (t122.extract (cS:Int).toNat (t123:Int).toNat) t124 _ A6.out).mono ?_
    rintro e uk ⟨rfl,hb⟩
    have ams:=(hb.cell (World.block_lt_of_cell? _ _ (hHeld.1))).trans (hHeld.1)
    have amt:=(hb.cell (World.block_lt_of_cell? _ _ (hHeld.2))).trans (hHeld.2)
    refine ⟨_,rfl,?_⟩
    have bB:=ah.mk (aA.below iG hb)
    have bL:=ah.mk (bC.trans eP (bC.of_below hb g none) (.inl rfl))
    have bY:=ah.mk (ay iF hb)
    clear dI
    clear HK
    clear HB
    have dI:=bB
    have HK:=bL
    have HB:=bY
    clear bB bL bY
    (try clear hb)
    (try clear hb2)
    (try clear hk)
    (try clear hi)
    refine hK.out _ _ ⟨ams,amt⟩ (fun hHeld=>?_)
    clear hK K
    refine CC (a':=?_) ?_ ?_
    rotate_left
    ·show Act.put _ (some 24) _=_
     simp only [Act.put,List.setIfInBounds_toArray,List.set_cons_zero,List.set_cons_succ,dx,dA]
     rfl
    refine eY (i:=12) (N:=some 2) (v:=?_) (a':=?_) #[true,true,true,true,true,true,true,true,true,true,true,true,true,false] rfl rfl (fY mB.out av) (fun _ _ _ h=>h) (Or.inl ⟨by rfl,?_⟩) ?_ ?_
    rotate_left
    ·intro w'
     go_simp
     with_reducible rfl
    rotate_left
    ·simp only [Act.put,List.setIfInBounds_toArray,List.set_cons_zero,List.set_cons_succ,dx,dA]
     rfl
    refine eY (i:=13) (N:=some 3) (v:=?_) (a':=?_) #[true,true,true,true,true,true,true,true,true,true,true,true,true,true] rfl rfl (fY mB.out av) (fun _ _ _ h=>h) (Or.inl ⟨by rfl,?_⟩) ?_ ?_
    rotate_left
    ·intro w'
     go_simp
     with_reducible rfl
    rotate_left
    ·simp only [Act.put,List.setIfInBounds_toArray,List.set_cons_zero,List.set_cons_succ,dx,dA]
     rfl
    refine G6 (Ag mB.out av) ?_
    try go_wp2
    go_ret2
    exact ⟨cR,iG,iF,eP⟩
   ·rw [if_neg c5] at H
    exact absurd H bn
  ·rw [if_neg c4] at H
   exact absurd H bn
 ·rw [if_neg c3] at H
  exact absurd H bn
def fE.f (k:Nat) (a0:ByteArray):Option (Bool):=(cm.f k a0 0).bind fun Md=>(if Md.2.1=true then (if Md.2.2.2=(a0.size:Int) then ((fI.f k a0).bind fun t130=>(some t130)) else (some false)) else (some false))
theorem fE.mono:∀ a0 k,cN (fE.f k a0) (fE.f (k + 1) a0):=by
 intro a0 k
 unfold fE.f
 repeat' first
  |(with_reducible exact cm.mono _ _ _)
  |(with_reducible exact fI.mono _ _)
  |(with_reducible exact cN.refl _)
  |(with_reducible exact cN.none _)
  |(with_reducible refine cN.ite ?_ ?_)
  |(with_reducible refine cN.bind ?_ (fun _ =>?_))
  |refine cN.ite ?_ ?_
  |refine cN.bind ?_ (fun _ =>?_)
set_option maxHeartbeats 8000000 in
set_option maxRecDepth 100000 in
theorem fE.calls (k:Nat) (a0:ByteArray) (r:Bool) (w:World) (hG:aU w) (h:fE.f k a0=some r):
 Calls Tryz.prog 25 #[.string a0] w fun e w'=>e= .returned (.bool r)∧Below w.heap.size w w':=by
 have amu:=Tryz.underlying82
 have HB:=ah.mk (Below.refl w.heap.size w)
 have HG:=ah.mk hG
 clear hG
 have H:((cm.f k a0 0).bind fun Md=>(if Md.2.1=true then (if Md.2.2.2=(a0.size:Int) then ((fI.f k a0).bind fun t130=>(some t130)) else (some false)) else (some false)))=some r:=h
 clear h
 replace H:=Option.bind_eq_some_iff.mp H
 obtain ⟨⟨t126,t127,t128,t129⟩,nU,H⟩:=H
 replace H:(if t127=true then (if t129=(a0.size:Int) then ((fI.f k a0).bind fun t130=>(some t130)) else (some false)) else (some false))=some r:=H
 have A2:=ah.mk nU
 clear nU
 by_cases c3:t127=true
 ·subst c3
  have H1:(if t129=(a0.size:Int) then ((fI.f k a0).bind fun t130=>(some t130)) else (some false))=some r:=by rw [if_pos rfl] at H;exact H
  clear H
  have H:=H1
  clear H1
  by_cases c4:t129=(a0.size:Int)
  ·rw [if_pos c4] at H
   have o9:(t129 == (a0.size:Int))=true:=beq_iff_eq.mpr c4
   have GK:(t129 != (a0.size:Int))=false:=bne_eq_false_iff_eq.mpr c4
   clear c4
   replace H:=Option.bind_eq_some_iff.mp H
   obtain ⟨t130,Me,H⟩:=H
   replace H:(some t130)=some r:=H
   have A5:=ah.mk Me
   clear Me
   obtain rfl:=Option.some.inj H
   go_enter Tryz.func25,Tryz.ntmps25
   go_wp2_with (first|((with_reducible refine cC (N:=8) rfl ?_);(try (refine cO (by rfl) ?_;dsimp only));refine b9 ?hg (N:=8) ?hd (cs:=#[.string a0,.int .i64 0]) (t:=82) ?hr ?_;(case hd=>rfl);(case hg=>rfl);(case hr=>first|(go_simp;done)|(go_simp;rfl));intro ru hg w6 cJ hb;have bB:=ah.mk (ay bN hb);have bL:=ah.mk ((⟨cJ,dz⟩:aA w w6 ru a0 0));have bY:=ah.mk ((dz:w.heap.size≤ru));have cK:=ah.mk ((dz:w.heap.size≤ru));clear HB;have HB:=bB;have nr:=bL;have aao:=bY;have aap:=cK;clear bB bL bY cK;clear hb cJ hg)|((with_reducible refine aQ (f:=80) rfl ?_);refine cu (some 11) rfl rfl Tryz.func80 av rfl #[.pointer (some ⟨ru,0,none⟩)] rfl cT ?_;(with_reducible refine (cm.calls k ru a0 0 t126 true t128 t129 w _ ?aX ?bT A2.out).mono ?_);(case aX=>repeat (first|(with_reducible first|exact nr.out|apply aA.alloc|apply aA.drewN|apply aA.drew|apply aA.fZ|apply aA.fV)|exact nr.out));(case bT=>repeat (first|(with_reducible first|exact HB.out|apply aB|apply aC|apply br|refine bh ?_ (aA.ge nr.out))|exact HB.out));rintro e w7 ⟨rfl,hi,hb,hk⟩;refine ⟨_,rfl,?_⟩;have bB:=ah.mk (hb);have bL:=ah.mk (hi);clear HB;clear nr;have HB:=bB;have nr:=bL;clear bB bL;(try clear hb);(try clear hb2);(try clear hk);(try clear hi);obtain ⟨Fz,aby⟩:=nr.out;have xh:=dV Fz;have xj:=dM Fz;have xk:=aa Fz 0;have xm:=aa Fz 1;clear Fz aby)|(go_at_call 61;(with_reducible refine (fI.calls k a0 t130 _ ?aX A5.out).mono ?_);(case aX=>exact aU.below HG.out zZ);rintro e w9 ⟨rfl,hb⟩;have bB:=ah.mk (aA.below (by repeat (first|(with_reducible first|exact nr.out|apply aA.alloc|apply aA.drewN|apply aA.drew|apply aA.fZ|apply aA.fV)|exact nr.out)) hb);have bL:=ah.mk (ay zZ hb);clear nr;clear HB;have nr:=bB;have HB:=bL;clear bB bL;(try clear hb);(try clear hb2);(try clear hk);(try clear hi)))
   go_ret
   exact ⟨cR,zZ⟩
  ·rw [if_neg c4] at H
   have o9:(t129 == (a0.size:Int))=false:=beq_eq_false_iff_ne.mpr c4
   have GK:(t129 != (a0.size:Int))=true:=bne_iff_ne.mpr c4
   obtain rfl:=Option.some.inj H
   go_enter Tryz.func25,Tryz.ntmps25
   go_wp2_with (first|((with_reducible refine cC (N:=8) rfl ?_);(try (refine cO (by rfl) ?_;dsimp only));refine b9 ?hg (N:=8) ?hd (cs:=#[.string a0,.int .i64 0]) (t:=82) ?hr ?_;(case hd=>rfl);(case hg=>rfl);(case hr=>first|(go_simp;done)|(go_simp;rfl));intro ru hg uk cJ hb;have bB:=ah.mk (ay bN hb);have bL:=ah.mk ((⟨cJ,dz⟩:aA w uk ru a0 0));have bY:=ah.mk ((dz:w.heap.size≤ru));have cK:=ah.mk ((dz:w.heap.size≤ru));clear HB;have HB:=bB;have nr:=bL;have aao:=bY;have aap:=cK;clear bB bL bY cK;clear hb cJ hg)|((with_reducible refine aQ (f:=80) rfl ?_);refine cu (some 11) rfl rfl Tryz.func80 av rfl #[.pointer (some ⟨ru,0,none⟩)] rfl cT ?_;(with_reducible refine (cm.calls k ru a0 0 t126 true t128 t129 w _ ?aX ?bT A2.out).mono ?_);(case aX=>repeat (first|(with_reducible first|exact nr.out|apply aA.alloc|apply aA.drewN|apply aA.drew|apply aA.fZ|apply aA.fV)|exact nr.out));(case bT=>repeat (first|(with_reducible first|exact HB.out|apply aB|apply aC|apply br|refine bh ?_ (aA.ge nr.out))|exact HB.out));rintro e w11 ⟨rfl,hi,hb,hk⟩;refine ⟨_,rfl,?_⟩;have bB:=ah.mk (hb);have bL:=ah.mk (hi);clear HB;clear nr;have HB:=bB;have nr:=bL;clear bB bL;(try clear hb);(try clear hb2);(try clear hk);(try clear hi);obtain ⟨Mf,ad1⟩:=nr.out;have u7:=dV Mf;have u9:=dM Mf;have vk:=aa Mf 0;have vo:=aa Mf 1;clear Mf ad1))
   go_ret
   exact ⟨cR,zZ⟩
 ·replace c3:=Bool.eq_false_iff.mpr c3
  subst c3
  have H1:(some false)=some r:=by rw [if_neg (show ¬ (false=true) by decide)] at H;exact H
  clear H
  have H:=H1
  clear H1
  obtain rfl:=Option.some.inj H
  go_enter Tryz.func25,Tryz.ntmps25
  go_wp2_with (first|((with_reducible refine cC (N:=8) rfl ?_);(try (refine cO (by rfl) ?_;dsimp only));refine b9 ?hg (N:=8) ?hd (cs:=#[.string a0,.int .i64 0]) (t:=82) ?hr ?_;(case hd=>rfl);(case hg=>rfl);(case hr=>first|(go_simp;done)|(go_simp;rfl));intro ru hg mA cJ hb;have bB:=ah.mk (ay bN hb);have bL:=ah.mk ((⟨cJ,dz⟩:aA w mA ru a0 0));have bY:=ah.mk ((dz:w.heap.size≤ru));have cK:=ah.mk ((dz:w.heap.size≤ru));clear HB;have HB:=bB;have nr:=bL;have aao:=bY;have aap:=cK;clear bB bL bY cK;clear hb cJ hg)|((with_reducible refine aQ (f:=80) rfl ?_);refine cu (some 11) rfl rfl Tryz.func80 av rfl #[.pointer (some ⟨ru,0,none⟩)] rfl cT ?_;(with_reducible refine (cm.calls k ru a0 0 t126 false t128 t129 w _ ?aX ?bT A2.out).mono ?_);(case aX=>repeat (first|(with_reducible first|exact nr.out|apply aA.alloc|apply aA.drewN|apply aA.drew|apply aA.fZ|apply aA.fV)|exact nr.out));(case bT=>repeat (first|(with_reducible first|exact HB.out|apply aB|apply aC|apply br|refine bh ?_ (aA.ge nr.out))|exact HB.out));rintro e Hh ⟨rfl,hi,hb,hk⟩;refine ⟨_,rfl,?_⟩;have bB:=ah.mk (hb);have bL:=ah.mk (hi);clear HB;clear nr;have HB:=bB;have nr:=bL;clear bB bL;(try clear hb);(try clear hb2);(try clear hk);(try clear hi)))
  go_ret
  exact ⟨cR,zZ⟩
end Go.Proofs.YtokpnfljjjjikaaGreatDoor.pJ
