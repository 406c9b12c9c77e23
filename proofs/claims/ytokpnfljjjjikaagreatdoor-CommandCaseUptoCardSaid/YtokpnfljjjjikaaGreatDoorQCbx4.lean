import Derived.Test.YtokpnfljjjjikaaGreatDoorQCbx3
import Derived.Test.YtokpnfljjjjikaaGreatDoorESmall
set_option maxHeartbeats 8000000
set_option maxRecDepth 100000
namespace Go.Proofs.YtokpnfljjjjikaaGreatDoor.n9
open Go.RowKit Go.Proofs.aj.bQ Go.Proofs.aj.gf Go.Proofs.aj.cT
attribute [local go_sem] jt iY kQ kJ iJ iK ju jv
set_option linter.unusedVariables false
set_option linter.unusedSimpArgs false
def aQ.l0:Nat→Int→ByteArray→Int→Option (ByteArray×Bool×ByteArray×Int)
 | 0,_,_,_ =>none
 |k + 1,x6,iw,fV=>if fV < (iw.size:Int) then (if 0≤fV then ((eV.f (bt iw fV)).bind fun t110=>(if t110=true then (aQ.l0 k x6 iw (wrap64 (fV + 1))) else (if 0≤x6 then (if x6≤fV then (if fV≤(iw.size:Int) then (some (iw.extract (x6:Int).toNat (fV:Int).toNat,decide (fV > x6),iw,fV)) else (none)) else (none)) else (none)))) else (none)) else (if 0≤x6 then (if x6≤fV then (if fV≤(iw.size:Int) then (some (iw.extract (x6:Int).toNat (fV:Int).toNat,decide (fV > x6),iw,fV)) else (none)) else (none)) else (none))
def aQ.f (k:Nat) (fk:ByteArray) (cR:Int):Option (ByteArray×Bool×ByteArray×Int):=aQ.l0 k cR fk cR
theorem aQ.fU:∀ k,(∀ y0 y1 y2,cN (aQ.l0 k y0 y1 y2) (aQ.l0 (k + 1) y0 y1 y2))
 | 0=>fun _ _ _ r h=>by simp [aQ.l0] at h
 |k + 1=>by
  have oK:=aQ.fU k
  ·intro y0 y1 y2
   unfold aQ.l0
   repeat' first
   |(with_reducible exact oK _ _ _)
   |(with_reducible exact cN.refl _)
   |(with_reducible exact cN.none _)
   |(with_reducible refine cN.ite ?_ ?_)
   |(with_reducible refine cN.bind ?_ (fun _ =>?_))
   |refine cN.ite ?_ ?_
   |refine cN.bind ?_ (fun _ =>?_)
theorem aQ.mono:∀ a0 a1 k,cN (aQ.f k a0 a1) (aQ.f (k + 1) a0 a1):=by
 intro a0 a1 k
 have oK:=aQ.fU k
 unfold aQ.f
 repeat' first
  |(with_reducible exact oK _ _ _)
  |(with_reducible exact cN.refl _)
  |(with_reducible exact cN.none _)
  |(with_reducible refine cN.ite ?_ ?_)
  |(with_reducible refine cN.bind ?_ (fun _ =>?_))
  |refine cN.ite ?_ ?_
  |refine cN.bind ?_ (fun _ =>?_)
theorem aQ.calls (k:Nat) (g:Nat) (fk:ByteArray) (cR:Int) (r1:ByteArray) (r2:Bool) (r3:ByteArray) (r4:Int) (w0 w:World) (hI:ay w0 w g fk cR) (hB:Below w0.heap.size w0 w) (h:aQ.f k fk cR=some (r1,r2,r3,r4)):
 Calls Tryz.prog 119 #[.pointer (some ⟨g,0,none⟩),.func (.func 168) #[] #[]] w fun e w'=>e= .returned (.tuple #[.string r1,.bool r2])∧ay w0 w' g r3 r4∧Below w0.heap.size w0 w'∧bB w w' g none:=by
 have dH:=ah.mk hI
 have HK:=ah.mk (bB.refl w g none)
 have HL:=ah.mk hB.size
 clear hI
 have VQ:=ah.mk hB.size
 have HB:=ah.mk hB
 clear hB
 have H:(aQ.l0 k cR fk cR)=some (r1,r2,r3,r4):=h
 clear h
 have H':=ah.mk H
 clear H
 obtain ⟨ze,WW⟩:=dH.out
 have wh:=dR ze
 have wj:=dM ze
 have wk:=aa ze 0
 have wm:=aa ze 1
 clear ze WW
 go_enter Tryz.func119,Tryz.ntmps119
 go_wp2
 repeat (go_quiet (fail);try go_wp2)
 go_loopg [] k (fun kq w'=>∃ (bD:ByteArray) (aY:Int),ah (aQ.l0 kq cR bD aY=some (r1,r2,r3,r4))∧ah (kq≤k)∧ah (ay w0 w' g bD aY)∧ah (bB w w' g none)∧ah (Below w0.heap.size w0 w'))
 case atStart=>exact ⟨(fk),(cR),H',⟨Nat.le_refl _⟩,⟨iC⟩,⟨eK⟩,⟨iB⟩⟩
 case round=>
  clear H'
  try clear c1
  try clear p2
  try clear wh
  try clear wj
  try clear wk
  try clear wm
  obtain ⟨bD,aY,HA,wS,dH,HK,HB⟩:=hrel
  cases gk with
  |zero=>exact absurd HA.out (by simp [aQ.l0])
  |succ k1=>
   have H:=HA.out
   clear HA
   simp only [aQ.l0] at H
   by_cases c4:aY < (bD.size:Int)
   ·rw [if_pos c4] at H
    have nP:decide (aY < (bD.size:Int))=true:=decide_eq_true c4
    clear c4
    by_cases c5: 0≤aY
    ·rw [if_pos c5] at H
     have vZ:decide (0≤aY)=true:=decide_eq_true c5
     clear c5
     replace H:=Option.bind_eq_some_iff.mp H
     obtain ⟨t110,GV,H⟩:=H
     replace H:(if t110=true then (aQ.l0 k1 cR bD (wrap64 (aY + 1))) else (if 0≤cR then (if cR≤aY then (if aY≤(bD.size:Int) then (some (bD.extract (cR:Int).toNat (aY:Int).toNat,decide (aY > cR),bD,aY)) else (none)) else (none)) else (none)))=some (r1,r2,r3,r4):=H
     have A7:=ah.mk GV
     clear GV
     by_cases c8:t110=true
     ·subst c8
      have H1:(aQ.l0 k1 cR bD (wrap64 (aY + 1)))=some (r1,r2,r3,r4):=by rw [if_pos rfl] at H;exact H
      clear H
      have H:=H1
      clear H1
      have H':=ah.mk H
      clear H
      obtain ⟨qA,Lq⟩:=dH.out
      have rz:=dR qA
      have rA:=dM qA
      have rB:=aa qA 0
      have rC:=aa qA 1
      clear qA Lq
      have p6: 0≤(aY:Int):=of_decide_eq_true cO
      have q6:aY < (bD.size:Int):=of_decide_eq_true cO
      have hx6:=ig bD aY
      replace p6:=eq_true p6
      replace q6:=eq_true q6
      go_wp2_with (first|(go_at_call 168;(with_reducible refine (eV.calls (bt bD aY) true _ A7.out).mono ?_);rintro e w' ⟨rfl,⟨nd,rfl⟩⟩;(try first|exact ⟨rfl,_,World.drewN_drewN _ _ _⟩|exact ⟨rfl,_,Eq.trans (World.drewN_drewN _ _ _) (congrArg (World.drewN _) (Nat.add_assoc _ _ _))⟩)))
      repeat (go_quiet (first|(go_at_call 168;(with_reducible refine (eV.calls (bt bD aY) true _ A7.out).mono ?_);rintro e w' ⟨rfl,⟨nd,rfl⟩⟩;(try first|exact ⟨rfl,_,World.drewN_drewN _ _ _⟩|exact ⟨rfl,_,Eq.trans (World.drewN_drewN _ _ _) (congrArg (World.drewN _) (Nat.add_assoc _ _ _))⟩)));try go_wp2_with (first|(go_at_call 168;(with_reducible refine (eV.calls (bt bD aY) true _ A7.out).mono ?_);rintro e w' ⟨rfl,⟨nd,rfl⟩⟩;(try first|exact ⟨rfl,_,World.drewN_drewN _ _ _⟩|exact ⟨rfl,_,Eq.trans (World.drewN_drewN _ _ _) (congrArg (World.drewN _) (Nat.add_assoc _ _ _))⟩))))
      go_roundg k1
      case measure=>have:=wS.out;omega
      case rel=>exact ⟨(bD),(wrap64 (aY + 1)),H',⟨ko⟩,⟨iC⟩,⟨eK⟩,⟨iB⟩⟩
     ·replace c8:=Bool.eq_false_iff.mpr c8
      subst c8
      have H1:(if 0≤cR then (if cR≤aY then (if aY≤(bD.size:Int) then (some (bD.extract (cR:Int).toNat (aY:Int).toNat,decide (aY > cR),bD,aY)) else (none)) else (none)) else (none))=some (r1,r2,r3,r4):=by rw [if_neg (show ¬ (false=true) by decide)] at H;exact H
      clear H
      have H:=H1
      clear H1
      by_cases c10: 0≤cR
      ·rw [if_pos c10] at H
       have oX:=eq_true c10
       have yz:decide (0≤cR)=true:=decide_eq_true c10
       clear c10
       by_cases c11:cR≤aY
       ·rw [if_pos c11] at H
        have AY:=eq_true c11
        have Nk:decide (cR≤aY)=true:=decide_eq_true c11
        clear c11
        by_cases c12:aY≤(bD.size:Int)
        ·rw [if_pos c12] at H
         have Eg:=eq_true c12
         have Nl:decide (aY≤(bD.size:Int))=true:=decide_eq_true c12
         clear c12
         simp only [Option.some.injEq,Prod.mk.injEq] at H
         obtain ⟨rfl,rfl,rfl,rfl⟩:=H
         obtain ⟨sB,Nn⟩:=dH.out
         have nJ:=dR sB
         have nK:=dM sB
         have nL:=aa sB 0
         have nM:=aa sB 1
         clear sB Nn
         have p6: 0≤(aY:Int):=of_decide_eq_true cO
         have q6:aY < (bD.size:Int):=of_decide_eq_true cO
         have hx6:=ig bD aY
         replace p6:=eq_true p6
         replace q6:=eq_true q6
         go_wp2_with (first|(go_at_call 168;(with_reducible refine (eV.calls (bt bD aY) false _ A7.out).mono ?_);rintro e w' ⟨rfl,⟨nd,rfl⟩⟩;(try first|exact ⟨rfl,_,World.drewN_drewN _ _ _⟩|exact ⟨rfl,_,Eq.trans (World.drewN_drewN _ _ _) (congrArg (World.drewN _) (Nat.add_assoc _ _ _))⟩)))
         repeat (go_quiet (first|(go_at_call 168;(with_reducible refine (eV.calls (bt bD aY) false _ A7.out).mono ?_);rintro e w' ⟨rfl,⟨nd,rfl⟩⟩;(try first|exact ⟨rfl,_,World.drewN_drewN _ _ _⟩|exact ⟨rfl,_,Eq.trans (World.drewN_drewN _ _ _) (congrArg (World.drewN _) (Nat.add_assoc _ _ _))⟩)));try go_wp2_with (first|(go_at_call 168;(with_reducible refine (eV.calls (bt bD aY) false _ A7.out).mono ?_);rintro e w' ⟨rfl,⟨nd,rfl⟩⟩;(try first|exact ⟨rfl,_,World.drewN_drewN _ _ _⟩|exact ⟨rfl,_,Eq.trans (World.drewN_drewN _ _ _) (congrArg (World.drewN _) (Nat.add_assoc _ _ _))⟩))))
         go_ret2
         exact ⟨cU,iC,iB,eK⟩
        ·rw [if_neg c12] at H
         exact absurd H bf
       ·rw [if_neg c11] at H
        exact absurd H bf
      ·rw [if_neg c10] at H
       exact absurd H bf
    ·rw [if_neg c5] at H
     exact absurd H bf
   ·rw [if_neg c4] at H
    have nP:decide (aY < (bD.size:Int))=false:=decide_eq_false c4
    clear c4
    by_cases c14: 0≤cR
    ·rw [if_pos c14] at H
     have Np:=eq_true c14
     have Nq:decide (0≤cR)=true:=decide_eq_true c14
     clear c14
     by_cases c15:cR≤aY
     ·rw [if_pos c15] at H
      have GW:=eq_true c15
      have S4:decide (cR≤aY)=true:=decide_eq_true c15
      clear c15
      by_cases c16:aY≤(bD.size:Int)
      ·rw [if_pos c16] at H
       have abX:=eq_true c16
       have abY:decide (aY≤(bD.size:Int))=true:=decide_eq_true c16
       clear c16
       simp only [Option.some.injEq,Prod.mk.injEq] at H
       obtain ⟨rfl,rfl,rfl,rfl⟩:=H
       obtain ⟨sD,Nr⟩:=dH.out
       have u9:=dR sD
       have vk:=dM sD
       have vo:=aa sD 0
       have vq:=aa sD 1
       clear sD Nr
       go_wp2
       repeat (go_quiet (fail);try go_wp2)
       go_ret2
       exact ⟨cU,iC,iB,eK⟩
      ·rw [if_neg c16] at H
       exact absurd H bf
     ·rw [if_neg c15] at H
      exact absurd H bf
    ·rw [if_neg c14] at H
     exact absurd H bf
def fH.f (k:Nat) (fk:ByteArray) (cR:Int):Option (Bool×ByteArray×Int):=(aQ.f k fk cR).bind fun lI=>(if lI.2.1=true then (if 0 < (lI.1.size:Int) then (if (bt lI.1 0)=45 then (some (false,lI.2.2.1,lI.2.2.2)) else (if 0≤(wrap64 ((lI.1.size:Int) - 1)) then (if (wrap64 ((lI.1.size:Int) - 1)) < (lI.1.size:Int) then (some (((bt lI.1 (wrap64 ((lI.1.size:Int) - 1))) != 45),lI.2.2.1,lI.2.2.2)) else (none)) else (none))) else (none)) else (some (false,lI.2.2.1,lI.2.2.2)))
theorem fH.mono:∀ a0 a1 k,cN (fH.f k a0 a1) (fH.f (k + 1) a0 a1):=by
 intro a0 a1 k
 unfold fH.f
 repeat' first
  |(with_reducible exact aQ.mono _ _ _)
  |(with_reducible exact cN.refl _)
  |(with_reducible exact cN.none _)
  |(with_reducible refine cN.ite ?_ ?_)
  |(with_reducible refine cN.bind ?_ (fun _ =>?_))
  |refine cN.ite ?_ ?_
  |refine cN.bind ?_ (fun _ =>?_)
theorem fH.calls (k:Nat) (g:Nat) (fk:ByteArray) (cR:Int) (r1:Bool) (r2:ByteArray) (r3:Int) (w0 w:World) (hI:ay w0 w g fk cR) (hB:Below w0.heap.size w0 w) (h:fH.f k fk cR=some (r1,r2,r3)):
 Calls Tryz.prog 129 #[.pointer (some ⟨g,0,none⟩)] w fun e w'=>e= .returned (.bool r1)∧ay w0 w' g r2 r3∧Below w0.heap.size w0 w'∧bB w w' g none:=by
 have dH:=ah.mk hI
 have HK:=ah.mk (bB.refl w g none)
 have HL:=ah.mk hB.size
 clear hI
 have VQ:=ah.mk hB.size
 have HB:=ah.mk hB
 clear hB
 have H:((aQ.f k fk cR).bind fun lI=>(if lI.2.1=true then (if 0 < (lI.1.size:Int) then (if (bt lI.1 0)=45 then (some (false,lI.2.2.1,lI.2.2.2)) else (if 0≤(wrap64 ((lI.1.size:Int) - 1)) then (if (wrap64 ((lI.1.size:Int) - 1)) < (lI.1.size:Int) then (some (((bt lI.1 (wrap64 ((lI.1.size:Int) - 1))) != 45),lI.2.2.1,lI.2.2.2)) else (none)) else (none))) else (none)) else (some (false,lI.2.2.1,lI.2.2.2))))=some (r1,r2,r3):=h
 clear h
 replace H:=Option.bind_eq_some_iff.mp H
 obtain ⟨⟨t111,t112,t113,t114⟩,oL,H⟩:=H
 replace H:(if t112=true then (if 0 < (t111.size:Int) then (if (bt t111 0)=45 then (some (false,t113,t114)) else (if 0≤(wrap64 ((t111.size:Int) - 1)) then (if (wrap64 ((t111.size:Int) - 1)) < (t111.size:Int) then (some (((bt t111 (wrap64 ((t111.size:Int) - 1))) != 45),t113,t114)) else (none)) else (none))) else (none)) else (some (false,t113,t114)))=some (r1,r2,r3):=H
 have A2:=ah.mk oL
 clear oL
 by_cases c3:t112=true
 ·subst c3
  have H1:(if 0 < (t111.size:Int) then (if (bt t111 0)=45 then (some (false,t113,t114)) else (if 0≤(wrap64 ((t111.size:Int) - 1)) then (if (wrap64 ((t111.size:Int) - 1)) < (t111.size:Int) then (some (((bt t111 (wrap64 ((t111.size:Int) - 1))) != 45),t113,t114)) else (none)) else (none))) else (none))=some (r1,r2,r3):=by rw [if_pos rfl] at H;exact H
  clear H
  have H:=H1
  clear H1
  by_cases c4: 0 < (t111.size:Int)
  ·rw [if_pos c4] at H
   have nP:decide (0 < (t111.size:Int))=true:=decide_eq_true c4
   have Bn:decide (0 < t111.size)=true:=decide_eq_true aq
   clear c4
   by_cases c6:(bt t111 0)=45
   ·rw [if_pos c6] at H
    have oW:((bt t111 0) == 45)=true:=beq_iff_eq.mpr c6
    have yS:((bt t111 0) != 45)=false:=bne_eq_false_iff_eq.mpr c6
    clear c6
    simp only [Option.some.injEq,Prod.mk.injEq] at H
    obtain ⟨rfl,rfl,rfl⟩:=H
    go_enter Tryz.func129,Tryz.ntmps129
    go_wp2_with (first|((with_reducible refine aT (f:=119) rfl ?_);refine cC (some 7) rfl rfl Tryz.func119 av rfl #[.pointer (some ⟨g,0,none⟩),.func (.func 168) #[] #[]] rfl cY ?_;(with_reducible refine (aQ.calls k g fk cR t111 true t113 t114 w0 _ ?bg ?bY A2.out).mono ?_);(case bg=>repeat (first|(with_reducible first|exact dH.out|apply ay.alloc|apply ay.drewN|apply ay.drew|apply ay.fS|apply ay.fP)|exact dH.out));(case bY=>repeat (first|(with_reducible first|exact HB.out|apply aD|apply aM|apply bq|refine bp ?_ (ay.ge dH.out))|exact HB.out));rintro e w7 ⟨rfl,hi,hb,hk⟩;refine ⟨_,rfl,?_⟩;have bI:=ah.mk (bB.trans eK hk (.inl rfl));have bP:=ah.mk (hb);have cw:=ah.mk (hi);clear HK;clear HB;clear dH;have HK:=bI;have HB:=bP;have dH:=cw;clear bI bP cw;(try clear hb);(try clear hb2);(try clear hk);(try clear hi);have p5: 0≤(0:Int):=aq;have q5: 0 < t111.size:=(by have:(0:Int) < (t111.size:Int):=of_decide_eq_true cO;omega);have hx5:∀ h: 0 < t111.size,((t111[0]'h).toNat:Int)=bt t111 0:=ig t111 0;clear p5;have qi5:(0 < (t111.size:Int))=True:=eq_true (of_decide_eq_true cO);replace q5:=eq_true q5))
    go_ret
    exact ⟨cU,iC,iB,eK⟩
   ·rw [if_neg c6] at H
    have oW:((bt t111 0) == 45)=false:=beq_eq_false_iff_ne.mpr c6
    have yS:((bt t111 0) != 45)=true:=bne_iff_ne.mpr c6
    obtain ⟨WX,WY⟩:∃ j_:Int,(wrap64 ((t111.size:Int) - 1))=j_ :=⟨_,rfl⟩
    replace H:(if 0≤(WX) then (if (WX) < (t111.size:Int) then (some (((bt t111 (WX)) != 45),t113,t114)) else (none)) else (none))=some (r1,r2,r3):=by first|(rw [WY] at H;exact H)|(simp only [WY] at H ⊢;exact H)
    (try rw [WY] at A2)
    have aqf:(IntKind.i64.wrap ((t111.size:Int) - 1))=WX:=(cS _).trans WY
    by_cases c9: 0≤(WX)
    ·rw [if_pos c9] at H
     have IM:decide (0≤(WX))=true:=decide_eq_true c9
     clear c9
     by_cases c10:(WX) < (t111.size:Int)
     ·rw [if_pos c10] at H
      have oX:decide ((WX) < (t111.size:Int))=true:=decide_eq_true c10
      clear c10
      simp only [Option.some.injEq,Prod.mk.injEq] at H
      obtain ⟨rfl,rfl,rfl⟩:=H
      go_enter Tryz.func129,Tryz.ntmps129
      go_wp2_with (first|((with_reducible refine aT (f:=119) rfl ?_);refine cC (some 7) rfl rfl Tryz.func119 av rfl #[.pointer (some ⟨g,0,none⟩),.func (.func 168) #[] #[]] rfl cY ?_;(with_reducible refine (aQ.calls k g fk cR t111 true t113 t114 w0 _ ?bg ?bY A2.out).mono ?_);(case bg=>repeat (first|(with_reducible first|exact dH.out|apply ay.alloc|apply ay.drewN|apply ay.drew|apply ay.fS|apply ay.fP)|exact dH.out));(case bY=>repeat (first|(with_reducible first|exact HB.out|apply aD|apply aM|apply bq|refine bp ?_ (ay.ge dH.out))|exact HB.out));rintro e IB ⟨rfl,hi,hb,hk⟩;refine ⟨_,rfl,?_⟩;have bI:=ah.mk (bB.trans eK hk (.inl rfl));have bP:=ah.mk (hb);have cw:=ah.mk (hi);clear HK;clear HB;clear dH;have HK:=bI;have HB:=bP;have dH:=cw;clear bI bP cw;(try clear hb);(try clear hb2);(try clear hk);(try clear hi);have p5: 0≤(0:Int):=aq;have q5: 0 < t111.size:=(by have:(0:Int) < (t111.size:Int):=of_decide_eq_true cO;omega);have hx5:∀ h: 0 < t111.size,((t111[0]'h).toNat:Int)=bt t111 0:=ig t111 0;clear p5;have qi5:(0 < (t111.size:Int))=True:=eq_true (of_decide_eq_true cO);replace q5:=eq_true q5;have p11: 0≤((WX):Int):=of_decide_eq_true cO;have q11:(WX) < (t111.size:Int):=of_decide_eq_true cO;have asz:=ig t111 (WX);replace p11:=eq_true p11;replace q11:=eq_true q11))
      go_ret
      exact ⟨by first|rfl|(simp [lW,lX]<;>rfl)|(simp only [← WY];first|rfl|(simp [lW,lX]<;>rfl))|(simp [*,lW,lX]<;>rfl),iC,iB,eK⟩
     ·rw [if_neg c10] at H
      exact absurd H bf
    ·rw [if_neg c9] at H
     exact absurd H bf
  ·rw [if_neg c4] at H
   exact absurd H bf
 ·replace c3:=Bool.eq_false_iff.mpr c3
  subst c3
  have H1:(some (false,t113,t114))=some (r1,r2,r3):=by rw [if_neg (show ¬ (false=true) by decide)] at H;exact H
  clear H
  have H:=H1
  clear H1
  simp only [Option.some.injEq,Prod.mk.injEq] at H
  obtain ⟨rfl,rfl,rfl⟩:=H
  go_enter Tryz.func129,Tryz.ntmps129
  go_wp2_with (first|((with_reducible refine aT (f:=119) rfl ?_);refine cC (some 7) rfl rfl Tryz.func119 av rfl #[.pointer (some ⟨g,0,none⟩),.func (.func 168) #[] #[]] rfl cY ?_;(with_reducible refine (aQ.calls k g fk cR t111 false t113 t114 w0 _ ?bg ?bY A2.out).mono ?_);(case bg=>repeat (first|(with_reducible first|exact dH.out|apply ay.alloc|apply ay.drewN|apply ay.drew|apply ay.fS|apply ay.fP)|exact dH.out));(case bY=>repeat (first|(with_reducible first|exact HB.out|apply aD|apply aM|apply bq|refine bp ?_ (ay.ge dH.out))|exact HB.out));rintro e n7 ⟨rfl,hi,hb,hk⟩;refine ⟨_,rfl,?_⟩;have bI:=ah.mk (bB.trans eK hk (.inl rfl));have bP:=ah.mk (hb);have cw:=ah.mk (hi);clear HK;clear HB;clear dH;have HK:=bI;have HB:=bP;have dH:=cw;clear bI bP cw;(try clear hb);(try clear hb2);(try clear hk);(try clear hi)))
  go_ret
  exact ⟨cU,iC,iB,eK⟩
def aU.l0:Nat→Int→ByteArray→Int→Option (Bool×ByteArray×Int)
 | 0,_,_,_ =>none
 |k + 1,x1,iw,fV=>(fH.f k iw fV).bind fun Ns=>(if Ns.1=true then ((bu.f Ns.2.1 Ns.2.2 x1).bind fun sF=>(if sF.1=true then (aU.l0 k x1 sF.2.1 sF.2.2) else (some (true,sF.2.1,sF.2.2)))) else (some (false,Ns.2.1,Ns.2.2)))
def aU.f (k:Nat) (fk:ByteArray) (cR:Int) (a1:Int):Option (Bool×ByteArray×Int):=aU.l0 k a1 fk cR
theorem aU.fU:∀ k,(∀ y0 y1 y2,cN (aU.l0 k y0 y1 y2) (aU.l0 (k + 1) y0 y1 y2))
 | 0=>fun _ _ _ r h=>by simp [aU.l0] at h
 |k + 1=>by
  have oK:=aU.fU k
  ·intro y0 y1 y2
   unfold aU.l0
   repeat' first
   |(with_reducible exact oK _ _ _)
   |(with_reducible exact fH.mono _ _ _)
   |(with_reducible exact cN.refl _)
   |(with_reducible exact cN.none _)
   |(with_reducible refine cN.ite ?_ ?_)
   |(with_reducible refine cN.bind ?_ (fun _ =>?_))
   |refine cN.ite ?_ ?_
   |refine cN.bind ?_ (fun _ =>?_)
theorem aU.mono:∀ a0 a1 a2 k,cN (aU.f k a0 a1 a2) (aU.f (k + 1) a0 a1 a2):=by
 intro a0 a1 a2 k
 have oK:=aU.fU k
 unfold aU.f
 repeat' first
  |(with_reducible exact oK _ _ _)
  |(with_reducible exact fH.mono _ _ _)
  |(with_reducible exact cN.refl _)
  |(with_reducible exact cN.none _)
  |(with_reducible refine cN.ite ?_ ?_)
  |(with_reducible refine cN.bind ?_ (fun _ =>?_))
  |refine cN.ite ?_ ?_
  |refine cN.bind ?_ (fun _ =>?_)
theorem aU.calls (k:Nat) (g:Nat) (fk:ByteArray) (cR:Int) (a1:Int) (r1:Bool) (r2:ByteArray) (r3:Int) (w0 w:World) (hI:ay w0 w g fk cR) (hB:Below w0.heap.size w0 w) (h:aU.f k fk cR a1=some (r1,r2,r3)):
 Calls Tryz.prog 67 #[.pointer (some ⟨g,0,none⟩),.int .u8 a1,.func (.func 129) #[.pointer (some ⟨g,0,none⟩)] #[]] w fun e w'=>e= .returned (.bool r1)∧ay w0 w' g r2 r3∧Below w0.heap.size w0 w'∧bB w w' g none:=by
 have dH:=ah.mk hI
 have HK:=ah.mk (bB.refl w g none)
 have HL:=ah.mk hB.size
 clear hI
 have VQ:=ah.mk hB.size
 have HB:=ah.mk hB
 clear hB
 have H:(aU.l0 k a1 fk cR)=some (r1,r2,r3):=h
 clear h
 have H':=ah.mk H
 clear H
 go_enter Tryz.func67,Tryz.ntmps67
 go_wp2
 go_loopg [] k (fun kq w'=>∃ (bD:ByteArray) (aY:Int),ah (aU.l0 kq a1 bD aY=some (r1,r2,r3))∧ah (kq≤k)∧ah (ay w0 w' g bD aY)∧ah (bB w w' g none)∧ah (Below w0.heap.size w0 w'))
 case atStart=>exact ⟨(fk),(cR),H',⟨Nat.le_refl _⟩,⟨iC⟩,⟨eK⟩,⟨iB⟩⟩
 case round=>
  clear H'
  try clear p2
  obtain ⟨bD,aY,HA,wS,dH,HK,HB⟩:=hrel
  cases gk with
  |zero=>exact absurd HA.out (by simp [aU.l0])
  |succ k1=>
   have H:=HA.out
   clear HA
   simp only [aU.l0] at H
   replace H:=Option.bind_eq_some_iff.mp H
   obtain ⟨⟨t115,t116,t117⟩,Ef,H⟩:=H
   replace H:(if t115=true then ((bu.f t116 t117 a1).bind fun sF=>(if sF.1=true then (aU.l0 k1 a1 sF.2.1 sF.2.2) else (some (true,sF.2.1,sF.2.2)))) else (some (false,t116,t117)))=some (r1,r2,r3):=H
   have A4:=ah.mk Ef
   clear Ef
   by_cases c5:t115=true
   ·subst c5
    have H1:((bu.f t116 t117 a1).bind fun sF=>(if sF.1=true then (aU.l0 k1 a1 sF.2.1 sF.2.2) else (some (true,sF.2.1,sF.2.2))))=some (r1,r2,r3):=by rw [if_pos rfl] at H;exact H
    clear H
    have H:=H1
    clear H1
    replace H:=Option.bind_eq_some_iff.mp H
    obtain ⟨⟨t118,t119,t120⟩,yF,H⟩:=H
    replace H:(if t118=true then (aU.l0 k1 a1 t119 t120) else (some (true,t119,t120)))=some (r1,r2,r3):=H
    have A6:=ah.mk yF
    clear yF
    by_cases c7:t118=true
    ·subst c7
     have H1:(aU.l0 k1 a1 t119 t120)=some (r1,r2,r3):=by rw [if_pos rfl] at H;exact H
     clear H
     have H:=H1
     clear H1
     have H':=ah.mk H
     clear H
     go_wp2_with (first|(go_at_call 129;(with_reducible refine (fH.calls k1 g bD aY true t116 t117 w0 _ ?bg ?bY A4.out).mono ?_);(case bg=>repeat (first|(with_reducible first|exact dH.out|apply ay.alloc|apply ay.drewN|apply ay.drew|apply ay.fS|apply ay.fP)|exact dH.out));(case bY=>repeat (first|(with_reducible first|exact HB.out|apply aD|apply aM|apply bq|refine bp ?_ (ay.ge dH.out))|exact HB.out));rintro e w8 ⟨rfl,hi,hb,hk⟩;have bI:=ah.mk (bB.trans eK hk (.inl rfl));have bP:=ah.mk (hb);have cw:=ah.mk (hi);clear HK;clear HB;clear dH;have HK:=bI;have HB:=bP;have dH:=cw;clear bI bP cw;(try clear hb);(try clear hb2);(try clear hk);(try clear hi))|((with_reducible refine aT (f:=56) rfl ?_);refine cC (some 11) rfl rfl Tryz.func56 av rfl #[.pointer (some ⟨g,0,none⟩),.int .u8 a1] rfl cY ?_;(with_reducible refine (bu.calls g t116 t117 a1 true t119 t120 w0 _ ?bg ?bY A6.out).mono ?_);(case bg=>repeat (first|(with_reducible first|exact dH.out|apply ay.alloc|apply ay.drewN|apply ay.drew|apply ay.fS|apply ay.fP)|exact dH.out));(case bY=>repeat (first|(with_reducible first|exact HB.out|apply aD|apply aM|apply bq|refine bp ?_ (ay.ge dH.out))|exact HB.out));rintro e w9 ⟨rfl,hi,hb,hk⟩;refine ⟨_,rfl,?_⟩;have bI:=ah.mk (bB.trans eK hk (.inl rfl));have bP:=ah.mk (hb);have cw:=ah.mk (hi);clear HK;clear HB;clear dH;have HK:=bI;have HB:=bP;have dH:=cw;clear bI bP cw;(try clear hb);(try clear hb2);(try clear hk);(try clear hi)))
     go_roundg k1
     case measure=>have:=wS.out;omega
     case rel=>exact ⟨(t119),(t120),H',⟨ko⟩,⟨iC⟩,⟨eK⟩,⟨iB⟩⟩
    ·replace c7:=Bool.eq_false_iff.mpr c7
     subst c7
     have H1:(some (true,t119,t120))=some (r1,r2,r3):=by rw [if_neg (show ¬ (false=true) by decide)] at H;exact H
     clear H
     have H:=H1
     clear H1
     simp only [Option.some.injEq,Prod.mk.injEq] at H
     obtain ⟨rfl,rfl,rfl⟩:=H
     go_wp2_with (first|(go_at_call 129;(with_reducible refine (fH.calls k1 g bD aY true t116 t117 w0 _ ?bg ?bY A4.out).mono ?_);(case bg=>repeat (first|(with_reducible first|exact dH.out|apply ay.alloc|apply ay.drewN|apply ay.drew|apply ay.fS|apply ay.fP)|exact dH.out));(case bY=>repeat (first|(with_reducible first|exact HB.out|apply aD|apply aM|apply bq|refine bp ?_ (ay.ge dH.out))|exact HB.out));rintro e vI ⟨rfl,hi,hb,hk⟩;have bI:=ah.mk (bB.trans eK hk (.inl rfl));have bP:=ah.mk (hb);have cw:=ah.mk (hi);clear HK;clear HB;clear dH;have HK:=bI;have HB:=bP;have dH:=cw;clear bI bP cw;(try clear hb);(try clear hb2);(try clear hk);(try clear hi))|((with_reducible refine aT (f:=56) rfl ?_);refine cC (some 11) rfl rfl Tryz.func56 av rfl #[.pointer (some ⟨g,0,none⟩),.int .u8 a1] rfl cY ?_;(with_reducible refine (bu.calls g t116 t117 a1 false t119 t120 w0 _ ?bg ?bY A6.out).mono ?_);(case bg=>repeat (first|(with_reducible first|exact dH.out|apply ay.alloc|apply ay.drewN|apply ay.drew|apply ay.fS|apply ay.fP)|exact dH.out));(case bY=>repeat (first|(with_reducible first|exact HB.out|apply aD|apply aM|apply bq|refine bp ?_ (ay.ge dH.out))|exact HB.out));rintro e w11 ⟨rfl,hi,hb,hk⟩;refine ⟨_,rfl,?_⟩;have bI:=ah.mk (bB.trans eK hk (.inl rfl));have bP:=ah.mk (hb);have cw:=ah.mk (hi);clear HK;clear HB;clear dH;have HK:=bI;have HB:=bP;have dH:=cw;clear bI bP cw;(try clear hb);(try clear hb2);(try clear hk);(try clear hi)))
     go_ret
     exact ⟨cU,iC,iB,eK⟩
   ·replace c5:=Bool.eq_false_iff.mpr c5
    subst c5
    have H1:(some (false,t116,t117))=some (r1,r2,r3):=by rw [if_neg (show ¬ (false=true) by decide)] at H;exact H
    clear H
    have H:=H1
    clear H1
    simp only [Option.some.injEq,Prod.mk.injEq] at H
    obtain ⟨rfl,rfl,rfl⟩:=H
    go_wp2_with (first|(go_at_call 129;(with_reducible refine (fH.calls k1 g bD aY false t116 t117 w0 _ ?bg ?bY A4.out).mono ?_);(case bg=>repeat (first|(with_reducible first|exact dH.out|apply ay.alloc|apply ay.drewN|apply ay.drew|apply ay.fS|apply ay.fP)|exact dH.out));(case bY=>repeat (first|(with_reducible first|exact HB.out|apply aD|apply aM|apply bq|refine bp ?_ (ay.ge dH.out))|exact HB.out));rintro e IB ⟨rfl,hi,hb,hk⟩;have bI:=ah.mk (bB.trans eK hk (.inl rfl));have bP:=ah.mk (hb);have cw:=ah.mk (hi);clear HK;clear HB;clear dH;have HK:=bI;have HB:=bP;have dH:=cw;clear bI bP cw;(try clear hb);(try clear hb2);(try clear hk);(try clear hi)))
    go_ret
    exact ⟨cU,iC,iB,eK⟩
def ck.f (k:Nat) (fk:ByteArray) (cR:Int):Option (ByteArray×Bool×ByteArray×Int):=(aU.f k fk cR 46).bind fun sG=>(if 0≤cR then (if cR≤sG.2.2 then (if sG.2.2≤(sG.2.1.size:Int) then ((cE.f (sG.2.1.extract (cR:Int).toNat (sG.2.2:Int).toNat)).bind fun t124=>(some (t124,sG.1,sG.2.1,sG.2.2))) else (none)) else (none)) else (none))
theorem ck.mono:∀ a0 a1 k,cN (ck.f k a0 a1) (ck.f (k + 1) a0 a1):=by
 intro a0 a1 k
 unfold ck.f
 repeat' first
  |(with_reducible exact aU.mono _ _ _ _)
  |(with_reducible exact cN.refl _)
  |(with_reducible exact cN.none _)
  |(with_reducible refine cN.ite ?_ ?_)
  |(with_reducible refine cN.bind ?_ (fun _ =>?_))
  |refine cN.ite ?_ ?_
  |refine cN.bind ?_ (fun _ =>?_)
def ck.T3:Bool×List (List Nat×List Nat):=(true,[([],[]),([0],[0]),([1],[1]),([2],[2]),([],[]),([],[]),([5],[5]),([6],[6]),([7],[7]),([3,4,8],[3,4,8]),([9],[9]),([],[]),([10,10,0,1,2,3,4,5,6,7,8,9,10],[10]),([11,12,0,1,2,3,4,5,6,7,8,9,10,11,12],[11])])
def ck.B3:List Nat:=[0,1,3,7,0,0,32,96,224,511,1023,0,2047,8191]
theorem ck.aog:tA .any (opsOf Tryz.f80 3)=ck.T3:=by kernel_rfl
theorem ck.afB:uC ck.T3.2 ck.B3=true:=by kernel_rfl
theorem ck.calls (k:Nat) (g:Nat) (fk:ByteArray) (cR:Int) (r1:ByteArray) (r2:Bool) (r3:ByteArray) (r4:Int) (w0 w:World) (hI:ay w0 w g fk cR) (hB:Below w0.heap.size w0 w) (h:ck.f k fk cR=some (r1,r2,r3,r4)):
 Calls Tryz.prog 80 #[.pointer (some ⟨g,0,none⟩)] w fun e w'=>e= .returned (.tuple #[.string r1,.bool r2])∧ay w0 w' g r3 r4∧Below w0.heap.size w0 w'∧bB w w' g none:=by
 have dH:=ah.mk hI
 have HK:=ah.mk (bB.refl w g none)
 have HL:=ah.mk hB.size
 clear hI
 have VQ:=ah.mk hB.size
 have HB:=ah.mk hB
 clear hB
 have H:((aU.f k fk cR 46).bind fun sG=>(if 0≤cR then (if cR≤sG.2.2 then (if sG.2.2≤(sG.2.1.size:Int) then ((cE.f (sG.2.1.extract (cR:Int).toNat (sG.2.2:Int).toNat)).bind fun t124=>(some (t124,sG.1,sG.2.1,sG.2.2))) else (none)) else (none)) else (none)))=some (r1,r2,r3,r4):=h
 clear h
 replace H:=Option.bind_eq_some_iff.mp H
 obtain ⟨⟨t121,t122,t123⟩,oL,H⟩:=H
 replace H:(if 0≤cR then (if cR≤t123 then (if t123≤(t122.size:Int) then ((cE.f (t122.extract (cR:Int).toNat (t123:Int).toNat)).bind fun t124=>(some (t124,t121,t122,t123))) else (none)) else (none)) else (none))=some (r1,r2,r3,r4):=H
 have A2:=ah.mk oL
 clear oL
 by_cases c3: 0≤cR
 ·rw [if_pos c3] at H
  have rD:=eq_true c3
  have Nt:decide (0≤cR)=true:=decide_eq_true c3
  clear c3
  by_cases c4:cR≤t123
  ·rw [if_pos c4] at H
   have nP:=eq_true c4
   have Bn:decide (cR≤t123)=true:=decide_eq_true c4
   clear c4
   by_cases c5:t123≤(t122.size:Int)
   ·rw [if_pos c5] at H
    have vZ:=eq_true c5
    have WZ:decide (t123≤(t122.size:Int))=true:=decide_eq_true c5
    clear c5
    replace H:=Option.bind_eq_some_iff.mp H
    obtain ⟨t124,yF,H⟩:=H
    replace H:(some (t124,t121,t122,t123))=some (r1,r2,r3,r4):=H
    have A6:=ah.mk yF
    clear yF
    simp only [Option.some.injEq,Prod.mk.injEq] at H
    obtain ⟨rfl,rfl,rfl,rfl⟩:=H
    obtain ⟨GK,adg⟩:=dH.out
    have GL:=dR GK
    have GM:=dM GK
    have GN:=aa GK 0
    have GP:=aa GK 1
    clear GK adg
    go_enter Tryz.func80,Tryz.ntmps80
    try go_wp2_with (first|((with_reducible refine aT (f:=67) rfl ?_);refine cC (some 13) rfl rfl Tryz.func67 av rfl #[.pointer (some ⟨g,0,none⟩),.int .u8 46,.func (.func 129) #[.pointer (some ⟨g,0,none⟩)] #[]] rfl cY ?_;(with_reducible refine (aU.calls k g fk cR 46 t121 t122 t123 w0 _ ?bg ?bY A2.out).mono ?_);(case bg=>repeat (first|(with_reducible first|exact dH.out|apply ay.alloc|apply ay.drewN|apply ay.drew|apply ay.fS|apply ay.fP)|exact dH.out));(case bY=>repeat (first|(with_reducible first|exact HB.out|apply aD|apply aM|apply bq|refine bp ?_ (ay.ge dH.out))|exact HB.out));rintro e w8 ⟨rfl,hi,hb,hk⟩;refine ⟨_,rfl,?_⟩;have bI:=ah.mk (bB.trans eK hk (.inl rfl));have bP:=ah.mk (hb);have cw:=ah.mk (hi);clear HK;clear HB;clear dH;have HK:=bI;have HB:=bP;have dH:=cw;clear bI bP cw;(try clear hb);(try clear hb2);(try clear hk);(try clear hi)))
    have bI:=ah.mk (ay.drew dH.out)
    have bP:=ah.mk (zG HK.out)
    have cw:=ah.mk (bq HB.out)
    clear dH
    clear HK
    clear HB
    have dH:=bI
    have HK:=bP
    have HB:=cw
    clear bI bP cw
    refine Bf (n:=14) (S:=fun w'=>w'.cell? ⟨g,0,none⟩=some (.string t122)∧w'.cell? ⟨g,1,none⟩=some (.int .i64 t123)) (ds:=[]) #[false,false,false,false,false,false,false,false,false,false,false,false,false,false] av (by rfl) (by rfl) ⟨dR dH.out.1,dM dH.out.1⟩ (fun hHeld=>?_);refine tO ck.aog ck.afB (fun lB Ph=>?_)
    generalize w8.drew=w9 at dH HK HB hHeld ⊢
    refine eG (i:=0) (N:=some 14) (v:=?_) (a':=?_) #[true,false,false,false,false,false,false,false,false,false,false,false,false,false] rfl rfl (fA lB.out av) (fun _ _ _ h=>h) (Or.inl ⟨by rfl,?_⟩) ?_ ?_
    rotate_left
    ·intro w'
     go_simp
     with_reducible rfl
    rotate_left
    ·simp only [Act.put,List.setIfInBounds_toArray,List.set_cons_zero,List.set_cons_succ,cS,cV]
     rfl
    refine eG (i:=1) (N:=some 15) (v:=?_) (a':=?_) #[true,true,false,false,false,false,false,false,false,false,false,false,false,false] rfl rfl (fA lB.out av) (fun _ _ _ h=>h) (Or.inl ⟨by rfl,?_⟩) ?_ ?_
    rotate_left
    ·intro w'
     go_simp
     with_reducible rfl
    rotate_left
    ·simp only [Act.put,List.setIfInBounds_toArray,List.set_cons_zero,List.set_cons_succ,cS,cV]
     rfl
    refine eG (i:=2) (N:=some 16) (v:=?_) (a':=?_) #[true,true,true,false,false,false,false,false,false,false,false,false,false,false] rfl rfl (fA lB.out av) (fun _ _ _ h=>h) (Or.inl ⟨by rfl,?_⟩) ?_ ?_
    rotate_left
    ·intro w'
     go_simp
     with_reducible rfl
    rotate_left
    ·simp only [Act.put,List.setIfInBounds_toArray,List.set_cons_zero,List.set_cons_succ,cS,cV]
     rfl
    refine eG (i:=4) (N:=some 18) (v:=?_) (a':=?_) #[true,true,true,false,true,false,false,false,false,false,false,false,false,false] rfl rfl (fA lB.out av) (fun _ _ _ h=>h) (Or.inl ⟨by rfl,?_⟩) ?_ ?_
    rotate_left
    ·intro w'
     go_simp
     with_reducible rfl
    rotate_left
    ·simp only [Act.put,List.setIfInBounds_toArray,List.set_cons_zero,List.set_cons_succ,cS,cV]
     rfl
    refine eG (i:=5) (N:=some 19) (v:=?_) (a':=?_) #[true,true,true,false,true,true,false,false,false,false,false,false,false,false] rfl rfl (fA lB.out av) (fun _ _ _ h=>h) (Or.inl ⟨by rfl,?_⟩) ?_ ?_
    rotate_left
    ·intro w'
     go_simp
     with_reducible rfl
    rotate_left
    ·simp only [Act.put,List.setIfInBounds_toArray,List.set_cons_zero,List.set_cons_succ,cS,cV]
     rfl
    refine eG (i:=6) (N:=some 20) (v:=?_) (a':=?_) #[true,true,true,false,true,true,true,false,false,false,false,false,false,false] rfl rfl (fA lB.out av) (fun _ _ _ h=>h) (Or.inl ⟨by rfl,?_⟩) ?_ ?_
    rotate_left
    ·intro w'
     go_simp
     with_reducible rfl
    rotate_left
    ·simp only [Act.put,List.setIfInBounds_toArray,List.set_cons_zero,List.set_cons_succ,cS,cV]
     rfl
    refine eG (i:=7) (N:=some 21) (v:=?_) (a':=?_) #[true,true,true,false,true,true,true,true,false,false,false,false,false,false] rfl rfl (fA lB.out av) (fun _ _ _ h=>h) (Or.inl ⟨by rfl,?_⟩) ?_ ?_
    rotate_left
    ·intro w'
     go_simp
     with_reducible rfl
    rotate_left
    ·simp only [Act.put,List.setIfInBounds_toArray,List.set_cons_zero,List.set_cons_succ,cS,cV]
     rfl
    refine eG (i:=11) (N:=some 25) (v:=?_) (a':=?_) #[true,true,true,false,true,true,true,true,false,false,false,true,false,false] rfl rfl (fA lB.out av) (fun _ _ _ h=>h) (Or.inl ⟨by rfl,?_⟩) ?_ ?_
    rotate_left
    ·intro w'
     go_simp
     with_reducible rfl
    rotate_left
    ·simp only [Act.put,List.setIfInBounds_toArray,List.set_cons_zero,List.set_cons_succ,cS,cV]
     rfl
    refine nR (i:=3) (N:=some 17) (v:=?_) (a':=?_) #[true,true,true,true,true,true,true,true,false,false,false,true,false,false] rfl rfl (nS lB.out Ph.out av) (fun _ _ _ h=>h) (Or.inl ⟨by rfl,?_⟩) hHeld ?_ ?_
    rotate_left
    ·rintro w' ⟨s0,s1⟩
     go_simp
     with_reducible rfl
    rotate_left
    ·simp only [Act.put,List.setIfInBounds_toArray,List.set_cons_zero,List.set_cons_succ,cS,cV]
     rfl
    refine nR (i:=8) (N:=some 22) (v:=?_) (a':=?_) #[true,true,true,true,true,true,true,true,true,false,false,true,false,false] rfl rfl (nS lB.out Ph.out av) (fun _ _ _ h=>h) (Or.inl ⟨by rfl,?_⟩) hHeld ?_ ?_
    rotate_left
    ·rintro w' ⟨s0,s1⟩
     go_simp
     with_reducible rfl
    rotate_left
    ·simp only [Act.put,List.setIfInBounds_toArray,List.set_cons_zero,List.set_cons_succ,cS,cV]
     rfl
    refine eG (i:=9) (N:=some 23) (v:=?_) (a':=?_) #[true,true,true,true,true,true,true,true,true,true,false,true,false,false] rfl rfl (fA lB.out av) (fun _ _ _ h=>h) (Or.inl ⟨by rfl,?_⟩) ?_ ?_
    rotate_left
    ·intro w'
     go_simp
     with_reducible rfl
    rotate_left
    ·simp only [Act.put,List.setIfInBounds_toArray,List.set_cons_zero,List.set_cons_succ,cS,cV]
     rfl
    refine II (i:=10) (N:=some 24) #[true,true,true,true,true,true,true,true,true,true,true,true,false,false] rfl rfl (wV lB.out av) bL (fun K hK=>?_)
    refine BV Tryz.func81 av rfl #[.string (t122.extract (cR:Int).toNat (t123:Int).toNat)] (by rfl) rfl rfl cY ?_
    with_reducible refine (cE.calls (t122.extract (cR:Int).toNat (t123:Int).toNat) t124 _ A6.out).mono ?_
    rintro e vI ⟨rfl,hb⟩
    have aoh:=(hb.cell (World.block_lt_of_cell? _ _ (hHeld.1))).trans (hHeld.1)
    have aoi:=(hb.cell (World.block_lt_of_cell? _ _ (hHeld.2))).trans (hHeld.2)
    refine ⟨_,rfl,?_⟩
    have bI:=ah.mk (ay.below iC hb)
    have bP:=ah.mk (bB.trans eK (bB.of_below hb g none) (.inl rfl))
    have cw:=ah.mk (az iB hb)
    clear dH
    clear HK
    clear HB
    have dH:=bI
    have HK:=bP
    have HB:=cw
    clear bI bP cw
    (try clear hb)
    (try clear hb2)
    (try clear hk)
    (try clear hi)
    refine hK.out _ _ ⟨aoh,aoi⟩ (fun hHeld=>?_)
    clear hK K
    refine BU (a':=?_) ?_ ?_
    rotate_left
    ·show Act.put _ (some 24) _=_
     simp only [Act.put,List.setIfInBounds_toArray,List.set_cons_zero,List.set_cons_succ,cS,cV]
     rfl
    refine eG (i:=12) (N:=some 2) (v:=?_) (a':=?_) #[true,true,true,true,true,true,true,true,true,true,true,true,true,false] rfl rfl (fA lB.out av) (fun _ _ _ h=>h) (Or.inl ⟨by rfl,?_⟩) ?_ ?_
    rotate_left
    ·intro w'
     go_simp
     with_reducible rfl
    rotate_left
    ·simp only [Act.put,List.setIfInBounds_toArray,List.set_cons_zero,List.set_cons_succ,cS,cV]
     rfl
    refine eG (i:=13) (N:=some 3) (v:=?_) (a':=?_) #[true,true,true,true,true,true,true,true,true,true,true,true,true,true] rfl rfl (fA lB.out av) (fun _ _ _ h=>h) (Or.inl ⟨by rfl,?_⟩) ?_ ?_
    rotate_left
    ·intro w'
     go_simp
     with_reducible rfl
    rotate_left
    ·simp only [Act.put,List.setIfInBounds_toArray,List.set_cons_zero,List.set_cons_succ,cS,cV]
     rfl
    refine Gz (zN lB.out av) ?_
    try go_wp2
    go_ret2
    exact ⟨cU,iC,iB,eK⟩
   ·rw [if_neg c5] at H
    exact absurd H bf
  ·rw [if_neg c4] at H
   exact absurd H bf
 ·rw [if_neg c3] at H
  exact absurd H bf
def fu.f (k:Nat) (a0:ByteArray):Option (Bool):=(ck.f k a0 0).bind fun Nu=>(if Nu.2.1=true then (if Nu.2.2.2=(a0.size:Int) then ((eX.f k a0).bind fun t130=>(some t130)) else (some false)) else (some false))
theorem fu.mono:∀ a0 k,cN (fu.f k a0) (fu.f (k + 1) a0):=by
 intro a0 k
 unfold fu.f
 repeat' first
  |(with_reducible exact ck.mono _ _ _)
  |(with_reducible exact eX.mono _ _)
  |(with_reducible exact cN.refl _)
  |(with_reducible exact cN.none _)
  |(with_reducible refine cN.ite ?_ ?_)
  |(with_reducible refine cN.bind ?_ (fun _ =>?_))
  |refine cN.ite ?_ ?_
  |refine cN.bind ?_ (fun _ =>?_)
theorem fu.calls (k:Nat) (a0:ByteArray) (r:Bool) (w:World) (hG:aW w) (h:fu.f k a0=some r):
 Calls Tryz.prog 25 #[.string a0] w fun e w'=>e= .returned (.bool r)∧Below w.heap.size w w':=by
 have aoj:=Tryz.underlying82
 have HB:=ah.mk (Below.refl w.heap.size w)
 have HG:=ah.mk hG
 clear hG
 have H:((ck.f k a0 0).bind fun Nu=>(if Nu.2.1=true then (if Nu.2.2.2=(a0.size:Int) then ((eX.f k a0).bind fun t130=>(some t130)) else (some false)) else (some false)))=some r:=h
 clear h
 replace H:=Option.bind_eq_some_iff.mp H
 obtain ⟨⟨t126,t127,t128,t129⟩,oL,H⟩:=H
 replace H:(if t127=true then (if t129=(a0.size:Int) then ((eX.f k a0).bind fun t130=>(some t130)) else (some false)) else (some false))=some r:=H
 have A2:=ah.mk oL
 clear oL
 by_cases c3:t127=true
 ·subst c3
  have H1:(if t129=(a0.size:Int) then ((eX.f k a0).bind fun t130=>(some t130)) else (some false))=some r:=by rw [if_pos rfl] at H;exact H
  clear H
  have H:=H1
  clear H1
  by_cases c4:t129=(a0.size:Int)
  ·rw [if_pos c4] at H
   have nP:(t129 == (a0.size:Int))=true:=beq_iff_eq.mpr c4
   have Bn:(t129 != (a0.size:Int))=false:=bne_eq_false_iff_eq.mpr c4
   clear c4
   replace H:=Option.bind_eq_some_iff.mp H
   obtain ⟨t130,Nv,H⟩:=H
   replace H:(some t130)=some r:=H
   have A5:=ah.mk Nv
   clear Nv
   obtain rfl:=Option.some.inj H
   go_enter Tryz.func25,Tryz.ntmps25
   go_wp2_with (first|((with_reducible refine cK (N:=8) rfl ?_);(try (refine eu (by rfl) ?_;dsimp only));refine cu ?hg (N:=8) ?hd (cs:=#[.string a0,.int .i64 0]) (t:=82) ?hr ?_;(case hd=>rfl);(case hg=>rfl);(case hr=>first|(go_simp;done)|(go_simp;rfl));intro sH hg w6 cM hb;have bI:=ah.mk (az cA hb);have bP:=ah.mk ((⟨cM,dW⟩:ay w w6 sH a0 0));have cw:=ah.mk ((dW:w.heap.size≤sH));have cW:=ah.mk ((dW:w.heap.size≤sH));clear HB;have HB:=bI;have nD:=bP;have abZ:=cw;have ab0:=cW;clear bI bP cw cW;clear hb cM hg)|((with_reducible refine aT (f:=80) rfl ?_);refine cC (some 11) rfl rfl Tryz.func80 av rfl #[.pointer (some ⟨sH,0,none⟩)] rfl cY ?_;(with_reducible refine (ck.calls k sH a0 0 t126 true t128 t129 w _ ?bg ?bY A2.out).mono ?_);(case bg=>repeat (first|(with_reducible first|exact nD.out|apply ay.alloc|apply ay.drewN|apply ay.drew|apply ay.fS|apply ay.fP)|exact nD.out));(case bY=>repeat (first|(with_reducible first|exact HB.out|apply aD|apply aM|apply bq|refine bp ?_ (ay.ge nD.out))|exact HB.out));rintro e w7 ⟨rfl,hi,hb,hk⟩;refine ⟨_,rfl,?_⟩;have bI:=ah.mk (hb);have bP:=ah.mk (hi);clear HB;clear nD;have HB:=bI;have nD:=bP;clear bI bP;(try clear hb);(try clear hb2);(try clear hk);(try clear hi);obtain ⟨GQ,adh⟩:=nD.out;have yT:=dR GQ;have yU:=dM GQ;have yV:=aa GQ 0;have yX:=aa GQ 1;clear GQ adh)|(go_at_call 61;(with_reducible refine (eX.calls k a0 t130 _ ?bg A5.out).mono ?_);(case bg=>exact aW.below HG.out Gn);rintro e w9 ⟨rfl,hb⟩;have bI:=ah.mk (ay.below (by repeat (first|(with_reducible first|exact nD.out|apply ay.alloc|apply ay.drewN|apply ay.drew|apply ay.fS|apply ay.fP)|exact nD.out)) hb);have bP:=ah.mk (az Gn hb);clear nD;clear HB;have nD:=bI;have HB:=bP;clear bI bP;(try clear hb);(try clear hb2);(try clear hk);(try clear hi)))
   go_ret
   exact ⟨cU,Gn⟩
  ·rw [if_neg c4] at H
   have nP:(t129 == (a0.size:Int))=false:=beq_eq_false_iff_ne.mpr c4
   have Bn:(t129 != (a0.size:Int))=true:=bne_iff_ne.mpr c4
   obtain rfl:=Option.some.inj H
   go_enter Tryz.func25,Tryz.ntmps25
   go_wp2_with (first|((with_reducible refine cK (N:=8) rfl ?_);(try (refine eu (by rfl) ?_;dsimp only));refine cu ?hg (N:=8) ?hd (cs:=#[.string a0,.int .i64 0]) (t:=82) ?hr ?_;(case hd=>rfl);(case hg=>rfl);(case hr=>first|(go_simp;done)|(go_simp;rfl));intro sH hg vI cM hb;have bI:=ah.mk (az cA hb);have bP:=ah.mk ((⟨cM,dW⟩:ay w vI sH a0 0));have cw:=ah.mk ((dW:w.heap.size≤sH));have cW:=ah.mk ((dW:w.heap.size≤sH));clear HB;have HB:=bI;have nD:=bP;have abZ:=cw;have ab0:=cW;clear bI bP cw cW;clear hb cM hg)|((with_reducible refine aT (f:=80) rfl ?_);refine cC (some 11) rfl rfl Tryz.func80 av rfl #[.pointer (some ⟨sH,0,none⟩)] rfl cY ?_;(with_reducible refine (ck.calls k sH a0 0 t126 true t128 t129 w _ ?bg ?bY A2.out).mono ?_);(case bg=>repeat (first|(with_reducible first|exact nD.out|apply ay.alloc|apply ay.drewN|apply ay.drew|apply ay.fS|apply ay.fP)|exact nD.out));(case bY=>repeat (first|(with_reducible first|exact HB.out|apply aD|apply aM|apply bq|refine bp ?_ (ay.ge nD.out))|exact HB.out));rintro e w11 ⟨rfl,hi,hb,hk⟩;refine ⟨_,rfl,?_⟩;have bI:=ah.mk (hb);have bP:=ah.mk (hi);clear HB;clear nD;have HB:=bI;have nD:=bP;clear bI bP;(try clear hb);(try clear hb2);(try clear hk);(try clear hi);obtain ⟨Nw,afC⟩:=nD.out;have wW:=dR Nw;have wX:=dM Nw;have wY:=aa Nw 0;have wZ:=aa Nw 1;clear Nw afC))
   go_ret
   exact ⟨cU,Gn⟩
 ·replace c3:=Bool.eq_false_iff.mpr c3
  subst c3
  have H1:(some false)=some r:=by rw [if_neg (show ¬ (false=true) by decide)] at H;exact H
  clear H
  have H:=H1
  clear H1
  obtain rfl:=Option.some.inj H
  go_enter Tryz.func25,Tryz.ntmps25
  go_wp2_with (first|((with_reducible refine cK (N:=8) rfl ?_);(try (refine eu (by rfl) ?_;dsimp only));refine cu ?hg (N:=8) ?hd (cs:=#[.string a0,.int .i64 0]) (t:=82) ?hr ?_;(case hd=>rfl);(case hg=>rfl);(case hr=>first|(go_simp;done)|(go_simp;rfl));intro sH hg n7 cM hb;have bI:=ah.mk (az cA hb);have bP:=ah.mk ((⟨cM,dW⟩:ay w n7 sH a0 0));have cw:=ah.mk ((dW:w.heap.size≤sH));have cW:=ah.mk ((dW:w.heap.size≤sH));clear HB;have HB:=bI;have nD:=bP;have abZ:=cw;have ab0:=cW;clear bI bP cw cW;clear hb cM hg)|((with_reducible refine aT (f:=80) rfl ?_);refine cC (some 11) rfl rfl Tryz.func80 av rfl #[.pointer (some ⟨sH,0,none⟩)] rfl cY ?_;(with_reducible refine (ck.calls k sH a0 0 t126 false t128 t129 w _ ?bg ?bY A2.out).mono ?_);(case bg=>repeat (first|(with_reducible first|exact nD.out|apply ay.alloc|apply ay.drewN|apply ay.drew|apply ay.fS|apply ay.fP)|exact nD.out));(case bY=>repeat (first|(with_reducible first|exact HB.out|apply aD|apply aM|apply bq|refine bp ?_ (ay.ge nD.out))|exact HB.out));rintro e CI ⟨rfl,hi,hb,hk⟩;refine ⟨_,rfl,?_⟩;have bI:=ah.mk (hb);have bP:=ah.mk (hi);clear HB;clear nD;have HB:=bI;have nD:=bP;clear bI bP;(try clear hb);(try clear hb2);(try clear hk);(try clear hi)))
  go_ret
  exact ⟨cU,Gn⟩
end Go.Proofs.YtokpnfljjjjikaaGreatDoor.n9
