import Derived.Test.YtokpnfljjjjikaaGreatDoorZo
import Derived.Test.YtokpnfljjjjikaaGreatDoorQCbx0
import Derived.Test.YtokpnfljjjjikaaGreatDoorQCbx3
import Derived.Test.YtokpnfljjjjikaaGreatDoorESmall
namespace Go.Proofs.YtokpnfljjjjikaaGreatDoor.nX
open Go.RowKit Go.Proofs.aj.bW Go.Proofs.aj.fW Go.Proofs.aj.dz
attribute [local go_sem] jg jh kO kP iK iL ji jk
set_option linter.unusedVariables false
set_option linter.unusedSimpArgs false
def aR.l0:Nat→Int→ByteArray→Int→Option (ByteArray×Bool×ByteArray×Int)
 | 0,_,_,_ =>none
 |k + 1,x6,gZ,fS=>if fS < (gZ.size:Int) then (if 0≤fS then ((eT.f (bt gZ fS)).bind fun t110=>(if t110=true then (aR.l0 k x6 gZ (wrap64 (fS + 1))) else (if 0≤x6 then (if x6≤fS then (if fS≤(gZ.size:Int) then (some (gZ.extract (x6:Int).toNat (fS:Int).toNat,decide (fS > x6),gZ,fS)) else (none)) else (none)) else (none)))) else (none)) else (if 0≤x6 then (if x6≤fS then (if fS≤(gZ.size:Int) then (some (gZ.extract (x6:Int).toNat (fS:Int).toNat,decide (fS > x6),gZ,fS)) else (none)) else (none)) else (none))
def aR.f (k:Nat) (eY:ByteArray) (cW:Int):Option (ByteArray×Bool×ByteArray×Int):=aR.l0 k cW eY cW
theorem aR.fR:∀ k,(∀ y0 y1 y2,cR (aR.l0 k y0 y1 y2) (aR.l0 (k + 1) y0 y1 y2))
 | 0=>fun _ _ _ r h=>by simp [aR.l0] at h
 |k + 1=>by
  have nY:=aR.fR k
  ·intro y0 y1 y2
   unfold aR.l0
   repeat' first
   |(with_reducible exact nY _ _ _)
   |(with_reducible exact cR.refl _)
   |(with_reducible exact cR.none _)
   |(with_reducible refine cR.ite ?_ ?_)
   |(with_reducible refine cR.bind ?_ (fun _ =>?_))
   |refine cR.ite ?_ ?_
   |refine cR.bind ?_ (fun _ =>?_)
theorem aR.mono:∀ a0 a1 k,cR (aR.f k a0 a1) (aR.f (k + 1) a0 a1):=by
 intro a0 a1 k
 have nY:=aR.fR k
 unfold aR.f
 repeat' first
  |(with_reducible exact nY _ _ _)
  |(with_reducible exact cR.refl _)
  |(with_reducible exact cR.none _)
  |(with_reducible refine cR.ite ?_ ?_)
  |(with_reducible refine cR.bind ?_ (fun _ =>?_))
  |refine cR.ite ?_ ?_
  |refine cR.bind ?_ (fun _ =>?_)
set_option maxHeartbeats 8000000 in
set_option maxRecDepth 100000 in
theorem aR.calls (k:Nat) (g:Nat) (eY:ByteArray) (cW:Int) (r1:ByteArray) (r2:Bool) (r3:ByteArray) (r4:Int) (w0 w:World) (hI:av w0 w g eY cW) (hB:Below w0.heap.size w0 w) (h:aR.f k eY cW=some (r1,r2,r3,r4)):
 Calls Tryz.prog 119 #[.pointer (some ⟨g,0,none⟩),.func (.func 168) #[] #[]] w fun e w'=>e= .returned (.tuple #[.string r1,.bool r2])∧av w0 w' g r3 r4∧Below w0.heap.size w0 w'∧bA w w' g none:=by
 have dO:=ah.mk hI
 have HK:=ah.mk (bA.refl w g none)
 have HL:=ah.mk hB.size
 clear hI
 have TW:=ah.mk hB.size
 have HB:=ah.mk hB
 clear hB
 have H:(aR.l0 k cW eY cW)=some (r1,r2,r3,r4):=h
 clear h
 have H':=ah.mk H
 clear H
 obtain ⟨xd,U2⟩:=dO.out
 have tS:=dW xd
 have tT:=dQ xd
 have tU:=aa xd 0
 have tV:=aa xd 1
 clear xd U2
 go_enter Tryz.func119,Tryz.ntmps119
 go_wp2
 repeat (go_quiet (fail);try go_wp2)
 go_loopg [] k (fun kq w'=>∃ (bC:ByteArray) (aY:Int),ah (aR.l0 kq cW bC aY=some (r1,r2,r3,r4))∧ah (kq≤k)∧ah (av w0 w' g bC aY)∧ah (bA w w' g none)∧ah (Below w0.heap.size w0 w'))
 case atStart=>exact ⟨(eY),(cW),H',⟨Nat.le_refl _⟩,⟨iy⟩,⟨eH⟩,⟨iw⟩⟩
 case round=>
  clear H'
  try clear c1
  try clear p2
  try clear tS
  try clear tT
  try clear tU
  try clear tV
  obtain ⟨bC,aY,HA,uC,dO,HK,HB⟩:=hrel
  cases gk with
  |zero=>exact absurd HA.out (by simp [aR.l0])
  |succ k1=>
   have H:=HA.out
   clear HA
   simp only [aR.l0] at H
   by_cases c4:aY < (bC.size:Int)
   ·rw [if_pos c4] at H
    have oL:decide (aY < (bC.size:Int))=true:=decide_eq_true c4
    clear c4
    by_cases c5: 0≤aY
    ·rw [if_pos c5] at H
     have tR:decide (0≤aY)=true:=decide_eq_true c5
     clear c5
     replace H:=Option.bind_eq_some_iff.mp H
     obtain ⟨t110,GW,H⟩:=H
     replace H:(if t110=true then (aR.l0 k1 cW bC (wrap64 (aY + 1))) else (if 0≤cW then (if cW≤aY then (if aY≤(bC.size:Int) then (some (bC.extract (cW:Int).toNat (aY:Int).toNat,decide (aY > cW),bC,aY)) else (none)) else (none)) else (none)))=some (r1,r2,r3,r4):=H
     have A7:=ah.mk GW
     clear GW
     by_cases c8:t110=true
     ·subst c8
      have H1:(aR.l0 k1 cW bC (wrap64 (aY + 1)))=some (r1,r2,r3,r4):=by rw [if_pos rfl] at H;exact H
      clear H
      have H:=H1
      clear H1
      have H':=ah.mk H
      clear H
      obtain ⟨pR,JT⟩:=dO.out
      have qp:=dW pR
      have qq:=dQ pR
      have qu:=aa pR 0
      have qw:=aa pR 1
      clear pR JT
      have p6: 0≤(aY:Int):=of_decide_eq_true cX
      have q6:aY < (bC.size:Int):=of_decide_eq_true cX
      have hx6:=gV bC aY
      replace p6:=eq_true p6
      replace q6:=eq_true q6
      go_wp2_with (first|(go_at_call 168;(with_reducible refine (eT.calls (bt bC aY) true _ A7.out).mono ?_);rintro e w' ⟨rfl,⟨nd,rfl⟩⟩;(try first|exact ⟨rfl,_,World.drewN_drewN _ _ _⟩|exact ⟨rfl,_,Eq.trans (World.drewN_drewN _ _ _) (congrArg (World.drewN _) (Nat.add_assoc _ _ _))⟩)))
      repeat (go_quiet (first|(go_at_call 168;(with_reducible refine (eT.calls (bt bC aY) true _ A7.out).mono ?_);rintro e w' ⟨rfl,⟨nd,rfl⟩⟩;(try first|exact ⟨rfl,_,World.drewN_drewN _ _ _⟩|exact ⟨rfl,_,Eq.trans (World.drewN_drewN _ _ _) (congrArg (World.drewN _) (Nat.add_assoc _ _ _))⟩)));try go_wp2_with (first|(go_at_call 168;(with_reducible refine (eT.calls (bt bC aY) true _ A7.out).mono ?_);rintro e w' ⟨rfl,⟨nd,rfl⟩⟩;(try first|exact ⟨rfl,_,World.drewN_drewN _ _ _⟩|exact ⟨rfl,_,Eq.trans (World.drewN_drewN _ _ _) (congrArg (World.drewN _) (Nat.add_assoc _ _ _))⟩))))
      go_roundg k1
      case measure=>have:=uC.out;omega
      case rel=>exact ⟨(bC),(wrap64 (aY + 1)),H',⟨j6⟩,⟨iy⟩,⟨eH⟩,⟨iw⟩⟩
     ·replace c8:=Bool.eq_false_iff.mpr c8
      subst c8
      have H1:(if 0≤cW then (if cW≤aY then (if aY≤(bC.size:Int) then (some (bC.extract (cW:Int).toNat (aY:Int).toNat,decide (aY > cW),bC,aY)) else (none)) else (none)) else (none))=some (r1,r2,r3,r4):=by rw [if_neg (show ¬ (false=true) by decide)] at H;exact H
      clear H
      have H:=H1
      clear H1
      by_cases c10: 0≤cW
      ·rw [if_pos c10] at H
       have pO:=eq_true c10
       have yZ:decide (0≤cW)=true:=decide_eq_true c10
       clear c10
       by_cases c11:cW≤aY
       ·rw [if_pos c11] at H
        have za:=eq_true c11
        have LG:decide (cW≤aY)=true:=decide_eq_true c11
        clear c11
        by_cases c12:aY≤(bC.size:Int)
        ·rw [if_pos c12] at H
         have Ct:=eq_true c12
         have LH:decide (aY≤(bC.size:Int))=true:=decide_eq_true c12
         clear c12
         simp only [Option.some.injEq,Prod.mk.injEq] at H
         obtain ⟨rfl,rfl,rfl,rfl⟩:=H
         obtain ⟨qO,LS⟩:=dO.out
         have qC:=dW qO
         have qD:=dQ qO
         have qE:=aa qO 0
         have qF:=aa qO 1
         clear qO LS
         have p6: 0≤(aY:Int):=of_decide_eq_true cX
         have q6:aY < (bC.size:Int):=of_decide_eq_true cX
         have hx6:=gV bC aY
         replace p6:=eq_true p6
         replace q6:=eq_true q6
         go_wp2_with (first|(go_at_call 168;(with_reducible refine (eT.calls (bt bC aY) false _ A7.out).mono ?_);rintro e w' ⟨rfl,⟨nd,rfl⟩⟩;(try first|exact ⟨rfl,_,World.drewN_drewN _ _ _⟩|exact ⟨rfl,_,Eq.trans (World.drewN_drewN _ _ _) (congrArg (World.drewN _) (Nat.add_assoc _ _ _))⟩)))
         repeat (go_quiet (first|(go_at_call 168;(with_reducible refine (eT.calls (bt bC aY) false _ A7.out).mono ?_);rintro e w' ⟨rfl,⟨nd,rfl⟩⟩;(try first|exact ⟨rfl,_,World.drewN_drewN _ _ _⟩|exact ⟨rfl,_,Eq.trans (World.drewN_drewN _ _ _) (congrArg (World.drewN _) (Nat.add_assoc _ _ _))⟩)));try go_wp2_with (first|(go_at_call 168;(with_reducible refine (eT.calls (bt bC aY) false _ A7.out).mono ?_);rintro e w' ⟨rfl,⟨nd,rfl⟩⟩;(try first|exact ⟨rfl,_,World.drewN_drewN _ _ _⟩|exact ⟨rfl,_,Eq.trans (World.drewN_drewN _ _ _) (congrArg (World.drewN _) (Nat.add_assoc _ _ _))⟩))))
         go_ret2
         exact ⟨cZ,iy,iw,eH⟩
        ·rw [if_neg c12] at H
         exact absurd H bn
       ·rw [if_neg c11] at H
        exact absurd H bn
      ·rw [if_neg c10] at H
       exact absurd H bn
    ·rw [if_neg c5] at H
     exact absurd H bn
   ·rw [if_neg c4] at H
    have oL:decide (aY < (bC.size:Int))=false:=decide_eq_false c4
    clear c4
    by_cases c14: 0≤cW
    ·rw [if_pos c14] at H
     have LU:=eq_true c14
     have LV:decide (0≤cW)=true:=decide_eq_true c14
     clear c14
     by_cases c15:cW≤aY
     ·rw [if_pos c15] at H
      have Fj:=eq_true c15
      have Re:decide (cW≤aY)=true:=decide_eq_true c15
      clear c15
      by_cases c16:aY≤(bC.size:Int)
      ·rw [if_pos c16] at H
       have aaI:=eq_true c16
       have aaJ:decide (aY≤(bC.size:Int))=true:=decide_eq_true c16
       clear c16
       simp only [Option.some.injEq,Prod.mk.injEq] at H
       obtain ⟨rfl,rfl,rfl,rfl⟩:=H
       obtain ⟨qP,LW⟩:=dO.out
       have tv:=dW qP
       have tA:=dQ qP
       have tB:=aa qP 0
       have tC:=aa qP 1
       clear qP LW
       go_wp2
       repeat (go_quiet (fail);try go_wp2)
       go_ret2
       exact ⟨cZ,iy,iw,eH⟩
      ·rw [if_neg c16] at H
       exact absurd H bn
     ·rw [if_neg c15] at H
      exact absurd H bn
    ·rw [if_neg c14] at H
     exact absurd H bn
def fD.f (k:Nat) (eY:ByteArray) (cW:Int):Option (Bool×ByteArray×Int):=(aR.f k eY cW).bind fun lG=>(if lG.2.1=true then (if 0 < (lG.1.size:Int) then (if (bt lG.1 0)=45 then (some (false,lG.2.2.1,lG.2.2.2)) else (if 0≤(wrap64 ((lG.1.size:Int) - 1)) then (if (wrap64 ((lG.1.size:Int) - 1)) < (lG.1.size:Int) then (some (((bt lG.1 (wrap64 ((lG.1.size:Int) - 1))) != 45),lG.2.2.1,lG.2.2.2)) else (none)) else (none))) else (none)) else (some (false,lG.2.2.1,lG.2.2.2)))
theorem fD.mono:∀ a0 a1 k,cR (fD.f k a0 a1) (fD.f (k + 1) a0 a1):=by
 intro a0 a1 k
 unfold fD.f
 repeat' first
  |(with_reducible exact aR.mono _ _ _)
  |(with_reducible exact cR.refl _)
  |(with_reducible exact cR.none _)
  |(with_reducible refine cR.ite ?_ ?_)
  |(with_reducible refine cR.bind ?_ (fun _ =>?_))
  |refine cR.ite ?_ ?_
  |refine cR.bind ?_ (fun _ =>?_)
set_option maxHeartbeats 8000000 in
set_option maxRecDepth 100000 in
theorem fD.calls (k:Nat) (g:Nat) (eY:ByteArray) (cW:Int) (r1:Bool) (r2:ByteArray) (r3:Int) (w0 w:World) (hI:av w0 w g eY cW) (hB:Below w0.heap.size w0 w) (h:fD.f k eY cW=some (r1,r2,r3)):
 Calls Tryz.prog 129 #[.pointer (some ⟨g,0,none⟩)] w fun e w'=>e= .returned (.bool r1)∧av w0 w' g r2 r3∧Below w0.heap.size w0 w'∧bA w w' g none:=by
 have dO:=ah.mk hI
 have HK:=ah.mk (bA.refl w g none)
 have HL:=ah.mk hB.size
 clear hI
 have TW:=ah.mk hB.size
 have HB:=ah.mk hB
 clear hB
 have H:((aR.f k eY cW).bind fun lG=>(if lG.2.1=true then (if 0 < (lG.1.size:Int) then (if (bt lG.1 0)=45 then (some (false,lG.2.2.1,lG.2.2.2)) else (if 0≤(wrap64 ((lG.1.size:Int) - 1)) then (if (wrap64 ((lG.1.size:Int) - 1)) < (lG.1.size:Int) then (some (((bt lG.1 (wrap64 ((lG.1.size:Int) - 1))) != 45),lG.2.2.1,lG.2.2.2)) else (none)) else (none))) else (none)) else (some (false,lG.2.2.1,lG.2.2.2))))=some (r1,r2,r3):=h
 clear h
 replace H:=Option.bind_eq_some_iff.mp H
 obtain ⟨⟨t111,t112,t113,t114⟩,nK,H⟩:=H
 replace H:(if t112=true then (if 0 < (t111.size:Int) then (if (bt t111 0)=45 then (some (false,t113,t114)) else (if 0≤(wrap64 ((t111.size:Int) - 1)) then (if (wrap64 ((t111.size:Int) - 1)) < (t111.size:Int) then (some (((bt t111 (wrap64 ((t111.size:Int) - 1))) != 45),t113,t114)) else (none)) else (none))) else (none)) else (some (false,t113,t114)))=some (r1,r2,r3):=H
 have A2:=ah.mk nK
 clear nK
 by_cases c3:t112=true
 ·subst c3
  have H1:(if 0 < (t111.size:Int) then (if (bt t111 0)=45 then (some (false,t113,t114)) else (if 0≤(wrap64 ((t111.size:Int) - 1)) then (if (wrap64 ((t111.size:Int) - 1)) < (t111.size:Int) then (some (((bt t111 (wrap64 ((t111.size:Int) - 1))) != 45),t113,t114)) else (none)) else (none))) else (none))=some (r1,r2,r3):=by rw [if_pos rfl] at H;exact H
  clear H
  have H:=H1
  clear H1
  by_cases c4: 0 < (t111.size:Int)
  ·rw [if_pos c4] at H
   have oL:decide (0 < (t111.size:Int))=true:=decide_eq_true c4
   have Gn:decide (0 < t111.size)=true:=decide_eq_true aq
   clear c4
   by_cases c6:(bt t111 0)=45
   ·rw [if_pos c6] at H
    have pF:((bt t111 0) == 45)=true:=beq_iff_eq.mpr c6
    have zl:((bt t111 0) != 45)=false:=bne_eq_false_iff_eq.mpr c6
    clear c6
    simp only [Option.some.injEq,Prod.mk.injEq] at H
    obtain ⟨rfl,rfl,rfl⟩:=H
    go_enter Tryz.func129,Tryz.ntmps129
    go_wp2_with (first|((with_reducible refine aN (f:=119) rfl ?_);refine cr (some 7) rfl rfl Tryz.func119 au rfl #[.pointer (some ⟨g,0,none⟩),.func (.func 168) #[] #[]] rfl cV ?_;(with_reducible refine (aR.calls k g eY cW t111 true t113 t114 w0 _ ?aX ?bS A2.out).mono ?_);(case aX=>repeat (first|(with_reducible first|exact dO.out|apply av.alloc|apply av.drewN|apply av.drew|apply av.fQ|apply av.fM)|exact dO.out));(case bS=>repeat (first|(with_reducible first|exact HB.out|apply az|apply aB|apply bu|refine bp ?_ (av.ge dO.out))|exact HB.out));rintro e w7 ⟨rfl,hi,hb,hk⟩;refine ⟨_,rfl,?_⟩;have bD:=ah.mk (bA.trans eH hk (.inl rfl));have bN:=ah.mk (hb);have cz:=ah.mk (hi);clear HK;clear HB;clear dO;have HK:=bD;have HB:=bN;have dO:=cz;clear bD bN cz;(try clear hb);(try clear hb2);(try clear hk);(try clear hi);have p5: 0≤(0:Int):=aq;have q5: 0 < t111.size:=(by have:(0:Int) < (t111.size:Int):=of_decide_eq_true cX;omega);have hx5:∀ h: 0 < t111.size,((t111[0]'h).toNat:Int)=bt t111 0:=gV t111 0;clear p5;have qi5:(0 < (t111.size:Int))=True:=eq_true (of_decide_eq_true cX);replace q5:=eq_true q5))
    go_ret
    exact ⟨cZ,iy,iw,eH⟩
   ·rw [if_neg c6] at H
    have pF:((bt t111 0) == 45)=false:=beq_eq_false_iff_ne.mpr c6
    have zl:((bt t111 0) != 45)=true:=bne_iff_ne.mpr c6
    obtain ⟨U3,U4⟩:∃ j_:Int,(wrap64 ((t111.size:Int) - 1))=j_ :=⟨_,rfl⟩
    replace H:(if 0≤(U3) then (if (U3) < (t111.size:Int) then (some (((bt t111 (U3)) != 45),t113,t114)) else (none)) else (none))=some (r1,r2,r3):=by first|(rw [U4] at H;exact H)|(simp only [U4] at H ⊢;exact H)
    (try rw [U4] at A2)
    have aoU:(IntKind.i64.wrap ((t111.size:Int) - 1))=U3:=(dB _).trans U4
    by_cases c9: 0≤(U3)
    ·rw [if_pos c9] at H
     have SY:decide (0≤(U3))=true:=decide_eq_true c9
     clear c9
     by_cases c10:(U3) < (t111.size:Int)
     ·rw [if_pos c10] at H
      have pO:decide ((U3) < (t111.size:Int))=true:=decide_eq_true c10
      clear c10
      simp only [Option.some.injEq,Prod.mk.injEq] at H
      obtain ⟨rfl,rfl,rfl⟩:=H
      go_enter Tryz.func129,Tryz.ntmps129
      go_wp2_with (first|((with_reducible refine aN (f:=119) rfl ?_);refine cr (some 7) rfl rfl Tryz.func119 au rfl #[.pointer (some ⟨g,0,none⟩),.func (.func 168) #[] #[]] rfl cV ?_;(with_reducible refine (aR.calls k g eY cW t111 true t113 t114 w0 _ ?aX ?bS A2.out).mono ?_);(case aX=>repeat (first|(with_reducible first|exact dO.out|apply av.alloc|apply av.drewN|apply av.drew|apply av.fQ|apply av.fM)|exact dO.out));(case bS=>repeat (first|(with_reducible first|exact HB.out|apply az|apply aB|apply bu|refine bp ?_ (av.ge dO.out))|exact HB.out));rintro e SX ⟨rfl,hi,hb,hk⟩;refine ⟨_,rfl,?_⟩;have bD:=ah.mk (bA.trans eH hk (.inl rfl));have bN:=ah.mk (hb);have cz:=ah.mk (hi);clear HK;clear HB;clear dO;have HK:=bD;have HB:=bN;have dO:=cz;clear bD bN cz;(try clear hb);(try clear hb2);(try clear hk);(try clear hi);have p5: 0≤(0:Int):=aq;have q5: 0 < t111.size:=(by have:(0:Int) < (t111.size:Int):=of_decide_eq_true cX;omega);have hx5:∀ h: 0 < t111.size,((t111[0]'h).toNat:Int)=bt t111 0:=gV t111 0;clear p5;have qi5:(0 < (t111.size:Int))=True:=eq_true (of_decide_eq_true cX);replace q5:=eq_true q5;have p11: 0≤((U3):Int):=of_decide_eq_true cX;have q11:(U3) < (t111.size:Int):=of_decide_eq_true cX;have aqX:=gV t111 (U3);replace p11:=eq_true p11;replace q11:=eq_true q11))
      go_ret
      exact ⟨by first|rfl|(simp [lQ,lR]<;>rfl)|(simp only [← U4];first|rfl|(simp [lQ,lR]<;>rfl))|(simp [*,lQ,lR]<;>rfl),iy,iw,eH⟩
     ·rw [if_neg c10] at H
      exact absurd H bn
    ·rw [if_neg c9] at H
     exact absurd H bn
  ·rw [if_neg c4] at H
   exact absurd H bn
 ·replace c3:=Bool.eq_false_iff.mpr c3
  subst c3
  have H1:(some (false,t113,t114))=some (r1,r2,r3):=by rw [if_neg (show ¬ (false=true) by decide)] at H;exact H
  clear H
  have H:=H1
  clear H1
  simp only [Option.some.injEq,Prod.mk.injEq] at H
  obtain ⟨rfl,rfl,rfl⟩:=H
  go_enter Tryz.func129,Tryz.ntmps129
  go_wp2_with (first|((with_reducible refine aN (f:=119) rfl ?_);refine cr (some 7) rfl rfl Tryz.func119 au rfl #[.pointer (some ⟨g,0,none⟩),.func (.func 168) #[] #[]] rfl cV ?_;(with_reducible refine (aR.calls k g eY cW t111 false t113 t114 w0 _ ?aX ?bS A2.out).mono ?_);(case aX=>repeat (first|(with_reducible first|exact dO.out|apply av.alloc|apply av.drewN|apply av.drew|apply av.fQ|apply av.fM)|exact dO.out));(case bS=>repeat (first|(with_reducible first|exact HB.out|apply az|apply aB|apply bu|refine bp ?_ (av.ge dO.out))|exact HB.out));rintro e nI ⟨rfl,hi,hb,hk⟩;refine ⟨_,rfl,?_⟩;have bD:=ah.mk (bA.trans eH hk (.inl rfl));have bN:=ah.mk (hb);have cz:=ah.mk (hi);clear HK;clear HB;clear dO;have HK:=bD;have HB:=bN;have dO:=cz;clear bD bN cz;(try clear hb);(try clear hb2);(try clear hk);(try clear hi)))
  go_ret
  exact ⟨cZ,iy,iw,eH⟩
def aV.l0:Nat→Int→ByteArray→Int→Option (Bool×ByteArray×Int)
 | 0,_,_,_ =>none
 |k + 1,x1,gZ,fS=>(fD.f k gZ fS).bind fun LX=>(if LX.1=true then ((br.f LX.2.1 LX.2.2 x1).bind fun qQ=>(if qQ.1=true then (aV.l0 k x1 qQ.2.1 qQ.2.2) else (some (true,qQ.2.1,qQ.2.2)))) else (some (false,LX.2.1,LX.2.2)))
def aV.f (k:Nat) (eY:ByteArray) (cW:Int) (a1:Int):Option (Bool×ByteArray×Int):=aV.l0 k a1 eY cW
theorem aV.fR:∀ k,(∀ y0 y1 y2,cR (aV.l0 k y0 y1 y2) (aV.l0 (k + 1) y0 y1 y2))
 | 0=>fun _ _ _ r h=>by simp [aV.l0] at h
 |k + 1=>by
  have nY:=aV.fR k
  ·intro y0 y1 y2
   unfold aV.l0
   repeat' first
   |(with_reducible exact nY _ _ _)
   |(with_reducible exact fD.mono _ _ _)
   |(with_reducible exact cR.refl _)
   |(with_reducible exact cR.none _)
   |(with_reducible refine cR.ite ?_ ?_)
   |(with_reducible refine cR.bind ?_ (fun _ =>?_))
   |refine cR.ite ?_ ?_
   |refine cR.bind ?_ (fun _ =>?_)
theorem aV.mono:∀ a0 a1 a2 k,cR (aV.f k a0 a1 a2) (aV.f (k + 1) a0 a1 a2):=by
 intro a0 a1 a2 k
 have nY:=aV.fR k
 unfold aV.f
 repeat' first
  |(with_reducible exact nY _ _ _)
  |(with_reducible exact fD.mono _ _ _)
  |(with_reducible exact cR.refl _)
  |(with_reducible exact cR.none _)
  |(with_reducible refine cR.ite ?_ ?_)
  |(with_reducible refine cR.bind ?_ (fun _ =>?_))
  |refine cR.ite ?_ ?_
  |refine cR.bind ?_ (fun _ =>?_)
set_option maxHeartbeats 8000000 in
set_option maxRecDepth 100000 in
theorem aV.calls (k:Nat) (g:Nat) (eY:ByteArray) (cW:Int) (a1:Int) (r1:Bool) (r2:ByteArray) (r3:Int) (w0 w:World) (hI:av w0 w g eY cW) (hB:Below w0.heap.size w0 w) (h:aV.f k eY cW a1=some (r1,r2,r3)):
 Calls Tryz.prog 67 #[.pointer (some ⟨g,0,none⟩),.int .u8 a1,.func (.func 129) #[.pointer (some ⟨g,0,none⟩)] #[]] w fun e w'=>e= .returned (.bool r1)∧av w0 w' g r2 r3∧Below w0.heap.size w0 w'∧bA w w' g none:=by
 have dO:=ah.mk hI
 have HK:=ah.mk (bA.refl w g none)
 have HL:=ah.mk hB.size
 clear hI
 have TW:=ah.mk hB.size
 have HB:=ah.mk hB
 clear hB
 have H:(aV.l0 k a1 eY cW)=some (r1,r2,r3):=h
 clear h
 have H':=ah.mk H
 clear H
 go_enter Tryz.func67,Tryz.ntmps67
 go_wp2
 go_loopg [] k (fun kq w'=>∃ (bC:ByteArray) (aY:Int),ah (aV.l0 kq a1 bC aY=some (r1,r2,r3))∧ah (kq≤k)∧ah (av w0 w' g bC aY)∧ah (bA w w' g none)∧ah (Below w0.heap.size w0 w'))
 case atStart=>exact ⟨(eY),(cW),H',⟨Nat.le_refl _⟩,⟨iy⟩,⟨eH⟩,⟨iw⟩⟩
 case round=>
  clear H'
  try clear p2
  obtain ⟨bC,aY,HA,uC,dO,HK,HB⟩:=hrel
  cases gk with
  |zero=>exact absurd HA.out (by simp [aV.l0])
  |succ k1=>
   have H:=HA.out
   clear HA
   simp only [aV.l0] at H
   replace H:=Option.bind_eq_some_iff.mp H
   obtain ⟨⟨t115,t116,t117⟩,Cr,H⟩:=H
   replace H:(if t115=true then ((br.f t116 t117 a1).bind fun qQ=>(if qQ.1=true then (aV.l0 k1 a1 qQ.2.1 qQ.2.2) else (some (true,qQ.2.1,qQ.2.2)))) else (some (false,t116,t117)))=some (r1,r2,r3):=H
   have A4:=ah.mk Cr
   clear Cr
   by_cases c5:t115=true
   ·subst c5
    have H1:((br.f t116 t117 a1).bind fun qQ=>(if qQ.1=true then (aV.l0 k1 a1 qQ.2.1 qQ.2.2) else (some (true,qQ.2.1,qQ.2.2))))=some (r1,r2,r3):=by rw [if_pos rfl] at H;exact H
    clear H
    have H:=H1
    clear H1
    replace H:=Option.bind_eq_some_iff.mp H
    obtain ⟨⟨t118,t119,t120⟩,wR,H⟩:=H
    replace H:(if t118=true then (aV.l0 k1 a1 t119 t120) else (some (true,t119,t120)))=some (r1,r2,r3):=H
    have A6:=ah.mk wR
    clear wR
    by_cases c7:t118=true
    ·subst c7
     have H1:(aV.l0 k1 a1 t119 t120)=some (r1,r2,r3):=by rw [if_pos rfl] at H;exact H
     clear H
     have H:=H1
     clear H1
     have H':=ah.mk H
     clear H
     go_wp2_with (first|(go_at_call 129;(with_reducible refine (fD.calls k1 g bC aY true t116 t117 w0 _ ?aX ?bS A4.out).mono ?_);(case aX=>repeat (first|(with_reducible first|exact dO.out|apply av.alloc|apply av.drewN|apply av.drew|apply av.fQ|apply av.fM)|exact dO.out));(case bS=>repeat (first|(with_reducible first|exact HB.out|apply az|apply aB|apply bu|refine bp ?_ (av.ge dO.out))|exact HB.out));rintro e w8 ⟨rfl,hi,hb,hk⟩;have bD:=ah.mk (bA.trans eH hk (.inl rfl));have bN:=ah.mk (hb);have cz:=ah.mk (hi);clear HK;clear HB;clear dO;have HK:=bD;have HB:=bN;have dO:=cz;clear bD bN cz;(try clear hb);(try clear hb2);(try clear hk);(try clear hi))|((with_reducible refine aN (f:=56) rfl ?_);refine cr (some 11) rfl rfl Tryz.func56 au rfl #[.pointer (some ⟨g,0,none⟩),.int .u8 a1] rfl cV ?_;(with_reducible refine (br.calls g t116 t117 a1 true t119 t120 w0 _ ?aX ?bS A6.out).mono ?_);(case aX=>repeat (first|(with_reducible first|exact dO.out|apply av.alloc|apply av.drewN|apply av.drew|apply av.fQ|apply av.fM)|exact dO.out));(case bS=>repeat (first|(with_reducible first|exact HB.out|apply az|apply aB|apply bu|refine bp ?_ (av.ge dO.out))|exact HB.out));rintro e w9 ⟨rfl,hi,hb,hk⟩;refine ⟨_,rfl,?_⟩;have bD:=ah.mk (bA.trans eH hk (.inl rfl));have bN:=ah.mk (hb);have cz:=ah.mk (hi);clear HK;clear HB;clear dO;have HK:=bD;have HB:=bN;have dO:=cz;clear bD bN cz;(try clear hb);(try clear hb2);(try clear hk);(try clear hi)))
     go_roundg k1
     case measure=>have:=uC.out;omega
     case rel=>exact ⟨(t119),(t120),H',⟨j6⟩,⟨iy⟩,⟨eH⟩,⟨iw⟩⟩
    ·replace c7:=Bool.eq_false_iff.mpr c7
     subst c7
     have H1:(some (true,t119,t120))=some (r1,r2,r3):=by rw [if_neg (show ¬ (false=true) by decide)] at H;exact H
     clear H
     have H:=H1
     clear H1
     simp only [Option.some.injEq,Prod.mk.injEq] at H
     obtain ⟨rfl,rfl,rfl⟩:=H
     go_wp2_with (first|(go_at_call 129;(with_reducible refine (fD.calls k1 g bC aY true t116 t117 w0 _ ?aX ?bS A4.out).mono ?_);(case aX=>repeat (first|(with_reducible first|exact dO.out|apply av.alloc|apply av.drewN|apply av.drew|apply av.fQ|apply av.fM)|exact dO.out));(case bS=>repeat (first|(with_reducible first|exact HB.out|apply az|apply aB|apply bu|refine bp ?_ (av.ge dO.out))|exact HB.out));rintro e sV ⟨rfl,hi,hb,hk⟩;have bD:=ah.mk (bA.trans eH hk (.inl rfl));have bN:=ah.mk (hb);have cz:=ah.mk (hi);clear HK;clear HB;clear dO;have HK:=bD;have HB:=bN;have dO:=cz;clear bD bN cz;(try clear hb);(try clear hb2);(try clear hk);(try clear hi))|((with_reducible refine aN (f:=56) rfl ?_);refine cr (some 11) rfl rfl Tryz.func56 au rfl #[.pointer (some ⟨g,0,none⟩),.int .u8 a1] rfl cV ?_;(with_reducible refine (br.calls g t116 t117 a1 false t119 t120 w0 _ ?aX ?bS A6.out).mono ?_);(case aX=>repeat (first|(with_reducible first|exact dO.out|apply av.alloc|apply av.drewN|apply av.drew|apply av.fQ|apply av.fM)|exact dO.out));(case bS=>repeat (first|(with_reducible first|exact HB.out|apply az|apply aB|apply bu|refine bp ?_ (av.ge dO.out))|exact HB.out));rintro e w11 ⟨rfl,hi,hb,hk⟩;refine ⟨_,rfl,?_⟩;have bD:=ah.mk (bA.trans eH hk (.inl rfl));have bN:=ah.mk (hb);have cz:=ah.mk (hi);clear HK;clear HB;clear dO;have HK:=bD;have HB:=bN;have dO:=cz;clear bD bN cz;(try clear hb);(try clear hb2);(try clear hk);(try clear hi)))
     go_ret
     exact ⟨cZ,iy,iw,eH⟩
   ·replace c5:=Bool.eq_false_iff.mpr c5
    subst c5
    have H1:(some (false,t116,t117))=some (r1,r2,r3):=by rw [if_neg (show ¬ (false=true) by decide)] at H;exact H
    clear H
    have H:=H1
    clear H1
    simp only [Option.some.injEq,Prod.mk.injEq] at H
    obtain ⟨rfl,rfl,rfl⟩:=H
    go_wp2_with (first|(go_at_call 129;(with_reducible refine (fD.calls k1 g bC aY false t116 t117 w0 _ ?aX ?bS A4.out).mono ?_);(case aX=>repeat (first|(with_reducible first|exact dO.out|apply av.alloc|apply av.drewN|apply av.drew|apply av.fQ|apply av.fM)|exact dO.out));(case bS=>repeat (first|(with_reducible first|exact HB.out|apply az|apply aB|apply bu|refine bp ?_ (av.ge dO.out))|exact HB.out));rintro e SX ⟨rfl,hi,hb,hk⟩;have bD:=ah.mk (bA.trans eH hk (.inl rfl));have bN:=ah.mk (hb);have cz:=ah.mk (hi);clear HK;clear HB;clear dO;have HK:=bD;have HB:=bN;have dO:=cz;clear bD bN cz;(try clear hb);(try clear hb2);(try clear hk);(try clear hi)))
    go_ret
    exact ⟨cZ,iy,iw,eH⟩
def ck.f (k:Nat) (eY:ByteArray) (cW:Int):Option (ByteArray×Bool×ByteArray×Int):=(aV.f k eY cW 46).bind fun qR=>(if 0≤cW then (if cW≤qR.2.2 then (if qR.2.2≤(qR.2.1.size:Int) then ((cC.f (qR.2.1.extract (cW:Int).toNat (qR.2.2:Int).toNat)).bind fun t124=>(some (t124,qR.1,qR.2.1,qR.2.2))) else (none)) else (none)) else (none))
theorem ck.mono:∀ a0 a1 k,cR (ck.f k a0 a1) (ck.f (k + 1) a0 a1):=by
 intro a0 a1 k
 unfold ck.f
 repeat' first
  |(with_reducible exact aV.mono _ _ _ _)
  |(with_reducible exact cR.refl _)
  |(with_reducible exact cR.none _)
  |(with_reducible refine cR.ite ?_ ?_)
  |(with_reducible refine cR.bind ?_ (fun _ =>?_))
  |refine cR.ite ?_ ?_
  |refine cR.bind ?_ (fun _ =>?_)
def ck.T3:Bool×List (List Nat×List Nat):=(true,[([],[]),([0],[0]),([1],[1]),([2],[2]),([],[]),([],[]),([5],[5]),([6],[6]),([7],[7]),([3,4,8],[3,4,8]),([9],[9]),([],[]),([10,10,0,1,2,3,4,5,6,7,8,9,10],[10]),([11,12,0,1,2,3,4,5,6,7,8,9,10,11,12],[11])])
def ck.B3:List Nat:=[0,1,3,7,0,0,32,96,224,511,1023,0,2047,8191]
theorem ck.anc:sx .any (opsOf Tryz.f80 3)=ck.T3:=by kernel_rfl
theorem ck.aen:uG ck.T3.2 ck.B3=true:=by kernel_rfl
set_option maxHeartbeats 8000000 in
set_option maxRecDepth 100000 in
theorem ck.calls (k:Nat) (g:Nat) (eY:ByteArray) (cW:Int) (r1:ByteArray) (r2:Bool) (r3:ByteArray) (r4:Int) (w0 w:World) (hI:av w0 w g eY cW) (hB:Below w0.heap.size w0 w) (h:ck.f k eY cW=some (r1,r2,r3,r4)):
 Calls Tryz.prog 80 #[.pointer (some ⟨g,0,none⟩)] w fun e w'=>e= .returned (.tuple #[.string r1,.bool r2])∧av w0 w' g r3 r4∧Below w0.heap.size w0 w'∧bA w w' g none:=by
 have dO:=ah.mk hI
 have HK:=ah.mk (bA.refl w g none)
 have HL:=ah.mk hB.size
 clear hI
 have TW:=ah.mk hB.size
 have HB:=ah.mk hB
 clear hB
 have H:((aV.f k eY cW 46).bind fun qR=>(if 0≤cW then (if cW≤qR.2.2 then (if qR.2.2≤(qR.2.1.size:Int) then ((cC.f (qR.2.1.extract (cW:Int).toNat (qR.2.2:Int).toNat)).bind fun t124=>(some (t124,qR.1,qR.2.1,qR.2.2))) else (none)) else (none)) else (none)))=some (r1,r2,r3,r4):=h
 clear h
 replace H:=Option.bind_eq_some_iff.mp H
 obtain ⟨⟨t121,t122,t123⟩,nK,H⟩:=H
 replace H:(if 0≤cW then (if cW≤t123 then (if t123≤(t122.size:Int) then ((cC.f (t122.extract (cW:Int).toNat (t123:Int).toNat)).bind fun t124=>(some (t124,t121,t122,t123))) else (none)) else (none)) else (none))=some (r1,r2,r3,r4):=H
 have A2:=ah.mk nK
 clear nK
 by_cases c3: 0≤cW
 ·rw [if_pos c3] at H
  have qm:=eq_true c3
  have LD:decide (0≤cW)=true:=decide_eq_true c3
  clear c3
  by_cases c4:cW≤t123
  ·rw [if_pos c4] at H
   have oL:=eq_true c4
   have Gn:decide (cW≤t123)=true:=decide_eq_true c4
   clear c4
   by_cases c5:t123≤(t122.size:Int)
   ·rw [if_pos c5] at H
    have tR:=eq_true c5
    have UR:decide (t123≤(t122.size:Int))=true:=decide_eq_true c5
    clear c5
    replace H:=Option.bind_eq_some_iff.mp H
    obtain ⟨t124,wR,H⟩:=H
    replace H:(some (t124,t121,t122,t123))=some (r1,r2,r3,r4):=H
    have A6:=ah.mk wR
    clear wR
    simp only [Option.some.injEq,Prod.mk.injEq] at H
    obtain ⟨rfl,rfl,rfl,rfl⟩:=H
    obtain ⟨Fb,abZ⟩:=dO.out
    have Fe:=dW Fb
    have Ff:=dQ Fb
    have Fg:=aa Fb 0
    have Fh:=aa Fb 1
    clear Fb abZ
    go_enter Tryz.func80,Tryz.ntmps80
    try go_wp2_with (first|((with_reducible refine aN (f:=67) rfl ?_);refine cr (some 13) rfl rfl Tryz.func67 au rfl #[.pointer (some ⟨g,0,none⟩),.int .u8 46,.func (.func 129) #[.pointer (some ⟨g,0,none⟩)] #[]] rfl cV ?_;(with_reducible refine (aV.calls k g eY cW 46 t121 t122 t123 w0 _ ?aX ?bS A2.out).mono ?_);(case aX=>repeat (first|(with_reducible first|exact dO.out|apply av.alloc|apply av.drewN|apply av.drew|apply av.fQ|apply av.fM)|exact dO.out));(case bS=>repeat (first|(with_reducible first|exact HB.out|apply az|apply aB|apply bu|refine bp ?_ (av.ge dO.out))|exact HB.out));rintro e w8 ⟨rfl,hi,hb,hk⟩;refine ⟨_,rfl,?_⟩;have bD:=ah.mk (bA.trans eH hk (.inl rfl));have bN:=ah.mk (hb);have cz:=ah.mk (hi);clear HK;clear HB;clear dO;have HK:=bD;have HB:=bN;have dO:=cz;clear bD bN cz;(try clear hb);(try clear hb2);(try clear hk);(try clear hi)))
    have bD:=ah.mk (av.drew dO.out)
    have bN:=ah.mk (xI HK.out)
    have cz:=ah.mk (bu HB.out)
    clear dO
    clear HK
    clear HB
    have dO:=bD
    have HK:=bN
    have HB:=cz
    clear bD bN cz
    refine BK (n:=14) (S:=fun w'=>w'.cell? ⟨g,0,none⟩=some (.string t122)∧w'.cell? ⟨g,1,none⟩=some (.int .i64 t123)) (ds:=[]) #[false,false,false,false,false,false,false,false,false,false,false,false,false,false] au (by rfl) (by rfl) ⟨dW dO.out.1,dQ dO.out.1⟩ (fun hHeld=>?_);refine ue ck.anc ck.aen (fun mg OA=>?_)
    generalize w8.drew=w9 at dO HK HB hHeld ⊢
    refine eP (i:=0) (N:=some 14) (v:=?_) (a':=?_) #[true,false,false,false,false,false,false,false,false,false,false,false,false,false] rfl rfl (fP mg.out au) (fun _ _ _ h=>h) (Or.inl ⟨by rfl,?_⟩) ?_ ?_
    rotate_left
    ·intro w'
     go_simp
     with_reducible rfl
    rotate_left
    ·simp only [Act.put,List.setIfInBounds_toArray,List.set_cons_zero,List.set_cons_succ,dB,dD]
     rfl
    refine eP (i:=1) (N:=some 15) (v:=?_) (a':=?_) #[true,true,false,false,false,false,false,false,false,false,false,false,false,false] rfl rfl (fP mg.out au) (fun _ _ _ h=>h) (Or.inl ⟨by rfl,?_⟩) ?_ ?_
    rotate_left
    ·intro w'
     go_simp
     with_reducible rfl
    rotate_left
    ·simp only [Act.put,List.setIfInBounds_toArray,List.set_cons_zero,List.set_cons_succ,dB,dD]
     rfl
    refine eP (i:=2) (N:=some 16) (v:=?_) (a':=?_) #[true,true,true,false,false,false,false,false,false,false,false,false,false,false] rfl rfl (fP mg.out au) (fun _ _ _ h=>h) (Or.inl ⟨by rfl,?_⟩) ?_ ?_
    rotate_left
    ·intro w'
     go_simp
     with_reducible rfl
    rotate_left
    ·simp only [Act.put,List.setIfInBounds_toArray,List.set_cons_zero,List.set_cons_succ,dB,dD]
     rfl
    refine eP (i:=4) (N:=some 18) (v:=?_) (a':=?_) #[true,true,true,false,true,false,false,false,false,false,false,false,false,false] rfl rfl (fP mg.out au) (fun _ _ _ h=>h) (Or.inl ⟨by rfl,?_⟩) ?_ ?_
    rotate_left
    ·intro w'
     go_simp
     with_reducible rfl
    rotate_left
    ·simp only [Act.put,List.setIfInBounds_toArray,List.set_cons_zero,List.set_cons_succ,dB,dD]
     rfl
    refine eP (i:=5) (N:=some 19) (v:=?_) (a':=?_) #[true,true,true,false,true,true,false,false,false,false,false,false,false,false] rfl rfl (fP mg.out au) (fun _ _ _ h=>h) (Or.inl ⟨by rfl,?_⟩) ?_ ?_
    rotate_left
    ·intro w'
     go_simp
     with_reducible rfl
    rotate_left
    ·simp only [Act.put,List.setIfInBounds_toArray,List.set_cons_zero,List.set_cons_succ,dB,dD]
     rfl
    refine eP (i:=6) (N:=some 20) (v:=?_) (a':=?_) #[true,true,true,false,true,true,true,false,false,false,false,false,false,false] rfl rfl (fP mg.out au) (fun _ _ _ h=>h) (Or.inl ⟨by rfl,?_⟩) ?_ ?_
    rotate_left
    ·intro w'
     go_simp
     with_reducible rfl
    rotate_left
    ·simp only [Act.put,List.setIfInBounds_toArray,List.set_cons_zero,List.set_cons_succ,dB,dD]
     rfl
    refine eP (i:=7) (N:=some 21) (v:=?_) (a':=?_) #[true,true,true,false,true,true,true,true,false,false,false,false,false,false] rfl rfl (fP mg.out au) (fun _ _ _ h=>h) (Or.inl ⟨by rfl,?_⟩) ?_ ?_
    rotate_left
    ·intro w'
     go_simp
     with_reducible rfl
    rotate_left
    ·simp only [Act.put,List.setIfInBounds_toArray,List.set_cons_zero,List.set_cons_succ,dB,dD]
     rfl
    refine eP (i:=11) (N:=some 25) (v:=?_) (a':=?_) #[true,true,true,false,true,true,true,true,false,false,false,true,false,false] rfl rfl (fP mg.out au) (fun _ _ _ h=>h) (Or.inl ⟨by rfl,?_⟩) ?_ ?_
    rotate_left
    ·intro w'
     go_simp
     with_reducible rfl
    rotate_left
    ·simp only [Act.put,List.setIfInBounds_toArray,List.set_cons_zero,List.set_cons_succ,dB,dD]
     rfl
    refine nB (i:=3) (N:=some 17) (v:=?_) (a':=?_) #[true,true,true,true,true,true,true,true,false,false,false,true,false,false] rfl rfl (nC mg.out OA.out au) (fun _ _ _ h=>h) (Or.inl ⟨by rfl,?_⟩) hHeld ?_ ?_
    rotate_left
    ·rintro w' ⟨s0,s1⟩
     go_simp
     with_reducible rfl
    rotate_left
    ·simp only [Act.put,List.setIfInBounds_toArray,List.set_cons_zero,List.set_cons_succ,dB,dD]
     rfl
    refine nB (i:=8) (N:=some 22) (v:=?_) (a':=?_) #[true,true,true,true,true,true,true,true,true,false,false,true,false,false] rfl rfl (nC mg.out OA.out au) (fun _ _ _ h=>h) (Or.inl ⟨by rfl,?_⟩) hHeld ?_ ?_
    rotate_left
    ·rintro w' ⟨s0,s1⟩
     go_simp
     with_reducible rfl
    rotate_left
    ·simp only [Act.put,List.setIfInBounds_toArray,List.set_cons_zero,List.set_cons_succ,dB,dD]
     rfl
    refine eP (i:=9) (N:=some 23) (v:=?_) (a':=?_) #[true,true,true,true,true,true,true,true,true,true,false,true,false,false] rfl rfl (fP mg.out au) (fun _ _ _ h=>h) (Or.inl ⟨by rfl,?_⟩) ?_ ?_
    rotate_left
    ·intro w'
     go_simp
     with_reducible rfl
    rotate_left
    ·simp only [Act.put,List.setIfInBounds_toArray,List.set_cons_zero,List.set_cons_succ,dB,dD]
     rfl
    refine IG (i:=10) (N:=some 24) #[true,true,true,true,true,true,true,true,true,true,true,true,false,false] rfl rfl (wM mg.out au) bR (fun K hK=>?_)
    refine Cm Tryz.func81 au rfl #[.string (t122.extract (cW:Int).toNat (t123:Int).toNat)] (by rfl) rfl rfl cV ?_
    with_reducible refine (cC.calls (t122.extract (cW:Int).toNat (t123:Int).toNat) t124 _ A6.out).mono ?_
    rintro e sV ⟨rfl,hb⟩
    have ane:=(hb.cell (World.block_lt_of_cell? _ _ (hHeld.1))).trans (hHeld.1)
    have anf:=(hb.cell (World.block_lt_of_cell? _ _ (hHeld.2))).trans (hHeld.2)
    refine ⟨_,rfl,?_⟩
    have bD:=ah.mk (av.below iy hb)
    have bN:=ah.mk (bA.trans eH (bA.of_below hb g none) (.inl rfl))
    have cz:=ah.mk (ay iw hb)
    clear dO
    clear HK
    clear HB
    have dO:=bD
    have HK:=bN
    have HB:=cz
    clear bD bN cz
    (try clear hb)
    (try clear hb2)
    (try clear hk)
    (try clear hi)
    refine hK.out _ _ ⟨ane,anf⟩ (fun hHeld=>?_)
    clear hK K
    refine Cl (a':=?_) ?_ ?_
    rotate_left
    ·show Act.put _ (some 24) _=_
     simp only [Act.put,List.setIfInBounds_toArray,List.set_cons_zero,List.set_cons_succ,dB,dD]
     rfl
    refine eP (i:=12) (N:=some 2) (v:=?_) (a':=?_) #[true,true,true,true,true,true,true,true,true,true,true,true,true,false] rfl rfl (fP mg.out au) (fun _ _ _ h=>h) (Or.inl ⟨by rfl,?_⟩) ?_ ?_
    rotate_left
    ·intro w'
     go_simp
     with_reducible rfl
    rotate_left
    ·simp only [Act.put,List.setIfInBounds_toArray,List.set_cons_zero,List.set_cons_succ,dB,dD]
     rfl
    refine eP (i:=13) (N:=some 3) (v:=?_) (a':=?_) #[true,true,true,true,true,true,true,true,true,true,true,true,true,true] rfl rfl (fP mg.out au) (fun _ _ _ h=>h) (Or.inl ⟨by rfl,?_⟩) ?_ ?_
    rotate_left
    ·intro w'
     go_simp
     with_reducible rfl
    rotate_left
    ·simp only [Act.put,List.setIfInBounds_toArray,List.set_cons_zero,List.set_cons_succ,dB,dD]
     rfl
    refine GN (zP mg.out au) ?_
    try go_wp2
    go_ret2
    exact ⟨cZ,iy,iw,eH⟩
   ·rw [if_neg c5] at H
    exact absurd H bn
  ·rw [if_neg c4] at H
   exact absurd H bn
 ·rw [if_neg c3] at H
  exact absurd H bn
def fk.f (k:Nat) (a0:ByteArray):Option (Bool):=(ck.f k a0 0).bind fun LY=>(if LY.2.1=true then (if LY.2.2.2=(a0.size:Int) then ((eW.f k a0).bind fun t130=>(some t130)) else (some false)) else (some false))
theorem fk.mono:∀ a0 k,cR (fk.f k a0) (fk.f (k + 1) a0):=by
 intro a0 k
 unfold fk.f
 repeat' first
  |(with_reducible exact ck.mono _ _ _)
  |(with_reducible exact eW.mono _ _)
  |(with_reducible exact cR.refl _)
  |(with_reducible exact cR.none _)
  |(with_reducible refine cR.ite ?_ ?_)
  |(with_reducible refine cR.bind ?_ (fun _ =>?_))
  |refine cR.ite ?_ ?_
  |refine cR.bind ?_ (fun _ =>?_)
set_option maxHeartbeats 8000000 in
set_option maxRecDepth 100000 in
theorem fk.calls (k:Nat) (a0:ByteArray) (r:Bool) (w:World) (hG:aT w) (h:fk.f k a0=some r):
 Calls Tryz.prog 25 #[.string a0] w fun e w'=>e= .returned (.bool r)∧Below w.heap.size w w':=by
 have ang:=Tryz.underlying82
 have HB:=ah.mk (Below.refl w.heap.size w)
 have HG:=ah.mk hG
 clear hG
 have H:((ck.f k a0 0).bind fun LY=>(if LY.2.1=true then (if LY.2.2.2=(a0.size:Int) then ((eW.f k a0).bind fun t130=>(some t130)) else (some false)) else (some false)))=some r:=h
 clear h
 replace H:=Option.bind_eq_some_iff.mp H
 obtain ⟨⟨t126,t127,t128,t129⟩,nK,H⟩:=H
 replace H:(if t127=true then (if t129=(a0.size:Int) then ((eW.f k a0).bind fun t130=>(some t130)) else (some false)) else (some false))=some r:=H
 have A2:=ah.mk nK
 clear nK
 by_cases c3:t127=true
 ·subst c3
  have H1:(if t129=(a0.size:Int) then ((eW.f k a0).bind fun t130=>(some t130)) else (some false))=some r:=by rw [if_pos rfl] at H;exact H
  clear H
  have H:=H1
  clear H1
  by_cases c4:t129=(a0.size:Int)
  ·rw [if_pos c4] at H
   have oL:(t129 == (a0.size:Int))=true:=beq_iff_eq.mpr c4
   have Gn:(t129 != (a0.size:Int))=false:=bne_eq_false_iff_eq.mpr c4
   clear c4
   replace H:=Option.bind_eq_some_iff.mp H
   obtain ⟨t130,LZ,H⟩:=H
   replace H:(some t130)=some r:=H
   have A5:=ah.mk LZ
   clear LZ
   obtain rfl:=Option.some.inj H
   go_enter Tryz.func25,Tryz.ntmps25
   go_wp2_with (first|((with_reducible refine cG (N:=8) rfl ?_);(try (refine dg (by rfl) ?_;dsimp only));refine cj ?hg (N:=8) ?hd (cs:=#[.string a0,.int .i64 0]) (t:=82) ?hr ?_;(case hd=>rfl);(case hg=>rfl);(case hr=>first|(go_simp;done)|(go_simp;rfl));intro qT hg w6 cJ hb;have bD:=ah.mk (ay cw hb);have bN:=ah.mk ((⟨cJ,dK⟩:av w w6 qT a0 0));have cz:=ah.mk ((dK:w.heap.size≤qT));have cY:=ah.mk ((dK:w.heap.size≤qT));clear HB;have HB:=bD;have mX:=bN;have aaK:=cz;have aaL:=cY;clear bD bN cz cY;clear hb cJ hg)|((with_reducible refine aN (f:=80) rfl ?_);refine cr (some 11) rfl rfl Tryz.func80 au rfl #[.pointer (some ⟨qT,0,none⟩)] rfl cV ?_;(with_reducible refine (ck.calls k qT a0 0 t126 true t128 t129 w _ ?aX ?bS A2.out).mono ?_);(case aX=>repeat (first|(with_reducible first|exact mX.out|apply av.alloc|apply av.drewN|apply av.drew|apply av.fQ|apply av.fM)|exact mX.out));(case bS=>repeat (first|(with_reducible first|exact HB.out|apply az|apply aB|apply bu|refine bp ?_ (av.ge mX.out))|exact HB.out));rintro e w7 ⟨rfl,hi,hb,hk⟩;refine ⟨_,rfl,?_⟩;have bD:=ah.mk (hb);have bN:=ah.mk (hi);clear HB;clear mX;have HB:=bD;have mX:=bN;clear bD bN;(try clear hb);(try clear hb2);(try clear hk);(try clear hi);obtain ⟨Fi,ab0⟩:=mX.out;have wU:=dW Fi;have wV:=dQ Fi;have wW:=aa Fi 0;have wX:=aa Fi 1;clear Fi ab0)|(go_at_call 61;(with_reducible refine (eW.calls k a0 t130 _ ?aX A5.out).mono ?_);(case aX=>exact aT.below HG.out EM);rintro e w9 ⟨rfl,hb⟩;have bD:=ah.mk (av.below (by repeat (first|(with_reducible first|exact mX.out|apply av.alloc|apply av.drewN|apply av.drew|apply av.fQ|apply av.fM)|exact mX.out)) hb);have bN:=ah.mk (ay EM hb);clear mX;clear HB;have mX:=bD;have HB:=bN;clear bD bN;(try clear hb);(try clear hb2);(try clear hk);(try clear hi)))
   go_ret
   exact ⟨cZ,EM⟩
  ·rw [if_neg c4] at H
   have oL:(t129 == (a0.size:Int))=false:=beq_eq_false_iff_ne.mpr c4
   have Gn:(t129 != (a0.size:Int))=true:=bne_iff_ne.mpr c4
   obtain rfl:=Option.some.inj H
   go_enter Tryz.func25,Tryz.ntmps25
   go_wp2_with (first|((with_reducible refine cG (N:=8) rfl ?_);(try (refine dg (by rfl) ?_;dsimp only));refine cj ?hg (N:=8) ?hd (cs:=#[.string a0,.int .i64 0]) (t:=82) ?hr ?_;(case hd=>rfl);(case hg=>rfl);(case hr=>first|(go_simp;done)|(go_simp;rfl));intro qT hg sV cJ hb;have bD:=ah.mk (ay cw hb);have bN:=ah.mk ((⟨cJ,dK⟩:av w sV qT a0 0));have cz:=ah.mk ((dK:w.heap.size≤qT));have cY:=ah.mk ((dK:w.heap.size≤qT));clear HB;have HB:=bD;have mX:=bN;have aaK:=cz;have aaL:=cY;clear bD bN cz cY;clear hb cJ hg)|((with_reducible refine aN (f:=80) rfl ?_);refine cr (some 11) rfl rfl Tryz.func80 au rfl #[.pointer (some ⟨qT,0,none⟩)] rfl cV ?_;(with_reducible refine (ck.calls k qT a0 0 t126 true t128 t129 w _ ?aX ?bS A2.out).mono ?_);(case aX=>repeat (first|(with_reducible first|exact mX.out|apply av.alloc|apply av.drewN|apply av.drew|apply av.fQ|apply av.fM)|exact mX.out));(case bS=>repeat (first|(with_reducible first|exact HB.out|apply az|apply aB|apply bu|refine bp ?_ (av.ge mX.out))|exact HB.out));rintro e w11 ⟨rfl,hi,hb,hk⟩;refine ⟨_,rfl,?_⟩;have bD:=ah.mk (hb);have bN:=ah.mk (hi);clear HB;clear mX;have HB:=bD;have mX:=bN;clear bD bN;(try clear hb);(try clear hb2);(try clear hk);(try clear hi);obtain ⟨L1,aeo⟩:=mX.out;have uI:=dW L1;have uJ:=dQ L1;have uK:=aa L1 0;have uL:=aa L1 1;clear L1 aeo))
   go_ret
   exact ⟨cZ,EM⟩
 ·replace c3:=Bool.eq_false_iff.mpr c3
  subst c3
  have H1:(some false)=some r:=by rw [if_neg (show ¬ (false=true) by decide)] at H;exact H
  clear H
  have H:=H1
  clear H1
  obtain rfl:=Option.some.inj H
  go_enter Tryz.func25,Tryz.ntmps25
  go_wp2_with (first|((with_reducible refine cG (N:=8) rfl ?_);(try (refine dg (by rfl) ?_;dsimp only));refine cj ?hg (N:=8) ?hd (cs:=#[.string a0,.int .i64 0]) (t:=82) ?hr ?_;(case hd=>rfl);(case hg=>rfl);(case hr=>first|(go_simp;done)|(go_simp;rfl));intro qT hg nI cJ hb;have bD:=ah.mk (ay cw hb);have bN:=ah.mk ((⟨cJ,dK⟩:av w nI qT a0 0));have cz:=ah.mk ((dK:w.heap.size≤qT));have cY:=ah.mk ((dK:w.heap.size≤qT));clear HB;have HB:=bD;have mX:=bN;have aaK:=cz;have aaL:=cY;clear bD bN cz cY;clear hb cJ hg)|((with_reducible refine aN (f:=80) rfl ?_);refine cr (some 11) rfl rfl Tryz.func80 au rfl #[.pointer (some ⟨qT,0,none⟩)] rfl cV ?_;(with_reducible refine (ck.calls k qT a0 0 t126 false t128 t129 w _ ?aX ?bS A2.out).mono ?_);(case aX=>repeat (first|(with_reducible first|exact mX.out|apply av.alloc|apply av.drewN|apply av.drew|apply av.fQ|apply av.fM)|exact mX.out));(case bS=>repeat (first|(with_reducible first|exact HB.out|apply az|apply aB|apply bu|refine bp ?_ (av.ge mX.out))|exact HB.out));rintro e GU ⟨rfl,hi,hb,hk⟩;refine ⟨_,rfl,?_⟩;have bD:=ah.mk (hb);have bN:=ah.mk (hi);clear HB;clear mX;have HB:=bD;have mX:=bN;clear bD bN;(try clear hb);(try clear hb2);(try clear hk);(try clear hi)))
  go_ret
  exact ⟨cZ,EM⟩
end Go.Proofs.YtokpnfljjjjikaaGreatDoor.nX
