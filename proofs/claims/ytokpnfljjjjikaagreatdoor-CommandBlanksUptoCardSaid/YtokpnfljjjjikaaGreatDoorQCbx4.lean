import Derived.Test.YtokpnfljjjjikaaGreatDoorQCbx3
import Derived.Test.YtokpnfljjjjikaaGreatDoorESmall
set_option maxHeartbeats 8000000
set_option maxRecDepth 100000
namespace Go.Proofs.YtokpnfljjjjikaaGreatDoor.nK
open Go.RowKit Go.Proofs.aj.bQ Go.Proofs.aj.fR Go.Proofs.aj.cM
attribute [local go_sem] iY iZ ku kA ig ij jc jd
set_option linter.unusedVariables false
set_option linter.unusedSimpArgs false
def aK.l0:Nat→Int→ByteArray→Int→Option (ByteArray×Bool×ByteArray×Int)
 | 0,_,_,_ =>none
 |k + 1,x6,gM,fM=>if fM < (gM.size:Int) then (if 0≤fM then ((eI.f (bt gM fM)).bind fun t110=>(if t110=true then (aK.l0 k x6 gM (wrap64 (fM + 1))) else (if 0≤x6 then (if x6≤fM then (if fM≤(gM.size:Int) then (some (gM.extract (x6:Int).toNat (fM:Int).toNat,decide (fM > x6),gM,fM)) else (none)) else (none)) else (none)))) else (none)) else (if 0≤x6 then (if x6≤fM then (if fM≤(gM.size:Int) then (some (gM.extract (x6:Int).toNat (fM:Int).toNat,decide (fM > x6),gM,fM)) else (none)) else (none)) else (none))
def aK.f (k:Nat) (eP:ByteArray) (cK:Int):Option (ByteArray×Bool×ByteArray×Int):=aK.l0 k cK eP cK
theorem aK.fJ:∀ k,(∀ y0 y1 y2,cH (aK.l0 k y0 y1 y2) (aK.l0 (k + 1) y0 y1 y2))
 | 0=>fun _ _ _ r h=>by simp [aK.l0] at h
 |k + 1=>by
  have nP:=aK.fJ k
  ·intro y0 y1 y2
   unfold aK.l0
   repeat' first
   |(with_reducible exact nP _ _ _)
   |(with_reducible exact cH.refl _)
   |(with_reducible exact cH.none _)
   |(with_reducible refine cH.ite ?_ ?_)
   |(with_reducible refine cH.bind ?_ (fun _ =>?_))
   |refine cH.ite ?_ ?_
   |refine cH.bind ?_ (fun _ =>?_)
theorem aK.mono:∀ a0 a1 k,cH (aK.f k a0 a1) (aK.f (k + 1) a0 a1):=by
 intro a0 a1 k
 have nP:=aK.fJ k
 unfold aK.f
 repeat' first
  |(with_reducible exact nP _ _ _)
  |(with_reducible exact cH.refl _)
  |(with_reducible exact cH.none _)
  |(with_reducible refine cH.ite ?_ ?_)
  |(with_reducible refine cH.bind ?_ (fun _ =>?_))
  |refine cH.ite ?_ ?_
  |refine cH.bind ?_ (fun _ =>?_)
theorem aK.calls (k:Nat) (g:Nat) (eP:ByteArray) (cK:Int) (r1:ByteArray) (r2:Bool) (r3:ByteArray) (r4:Int) (w0 w:World) (hI:ay w0 w g eP cK) (hB:Below w0.heap.size w0 w) (h:aK.f k eP cK=some (r1,r2,r3,r4)):
 Calls Tryz.prog 119 #[.pointer (some ⟨g,0,none⟩),.func (.func 168) #[] #[]] w fun e w'=>e= .returned (.tuple #[.string r1,.bool r2])∧ay w0 w' g r3 r4∧Below w0.heap.size w0 w'∧br w w' g none:=by
 have dx:=ah.mk hI
 have HK:=ah.mk (br.refl w g none)
 have HL:=ah.mk hB.size
 clear hI
 have TQ:=ah.mk hB.size
 have HB:=ah.mk hB
 clear hB
 have H:(aK.l0 k cK eP cK)=some (r1,r2,r3,r4):=h
 clear h
 have H':=ah.mk H
 clear H
 obtain ⟨wP,UE⟩:=dx.out
 have tS:=dI wP
 have tT:=dB wP
 have tU:=aa wP 0
 have tV:=aa wP 1
 clear wP UE
 go_enter Tryz.func119,Tryz.ntmps119
 go_wp2
 repeat (go_quiet (fail);try go_wp2)
 go_loopg [] k (fun kq w'=>∃ (bw:ByteArray) (aT:Int),ah (aK.l0 kq cK bw aT=some (r1,r2,r3,r4))∧ah (kq≤k)∧ah (ay w0 w' g bw aT)∧ah (br w w' g none)∧ah (Below w0.heap.size w0 w'))
 case atStart=>exact ⟨(eP),(cK),H',⟨Nat.le_refl _⟩,⟨gU⟩,⟨ez⟩,⟨gT⟩⟩
 case round=>
  clear H'
  try clear c1
  try clear p2
  try clear tS
  try clear tT
  try clear tU
  try clear tV
  obtain ⟨bw,aT,HA,uz,dx,HK,HB⟩:=hrel
  cases gk with
  |zero=>exact absurd HA.out (by simp [aK.l0])
  |succ k1=>
   have H:=HA.out
   clear HA
   simp only [aK.l0] at H
   by_cases c4:aT < (bw.size:Int)
   ·rw [if_pos c4] at H
    have oC:decide (aT < (bw.size:Int))=true:=decide_eq_true c4
    clear c4
    by_cases c5: 0≤aT
    ·rw [if_pos c5] at H
     have tR:decide (0≤aT)=true:=decide_eq_true c5
     clear c5
     replace H:=Option.bind_eq_some_iff.mp H
     obtain ⟨t110,GJ,H⟩:=H
     replace H:(if t110=true then (aK.l0 k1 cK bw (wrap64 (aT + 1))) else (if 0≤cK then (if cK≤aT then (if aT≤(bw.size:Int) then (some (bw.extract (cK:Int).toNat (aT:Int).toNat,decide (aT > cK),bw,aT)) else (none)) else (none)) else (none)))=some (r1,r2,r3,r4):=H
     have A7:=ah.mk GJ
     clear GJ
     by_cases c8:t110=true
     ·subst c8
      have H1:(aK.l0 k1 cK bw (wrap64 (aT + 1)))=some (r1,r2,r3,r4):=by rw [if_pos rfl] at H;exact H
      clear H
      have H:=H1
      clear H1
      have H':=ah.mk H
      clear H
      obtain ⟨oZ,IB⟩:=dx.out
      have pX:=dI oZ
      have pY:=dB oZ
      have pZ:=aa oZ 0
      have p8:=aa oZ 1
      clear oZ IB
      have p6: 0≤(aT:Int):=of_decide_eq_true cL
      have q6:aT < (bw.size:Int):=of_decide_eq_true cL
      have hx6:=gI bw aT
      replace p6:=eq_true p6
      replace q6:=eq_true q6
      go_wp2_with (first|(go_at_call 168;(with_reducible refine (eI.calls (bt bw aT) true _ A7.out).mono ?_);rintro e w' ⟨rfl,⟨nd,rfl⟩⟩;(try first|exact ⟨rfl,_,World.drewN_drewN _ _ _⟩|exact ⟨rfl,_,Eq.trans (World.drewN_drewN _ _ _) (congrArg (World.drewN _) (Nat.add_assoc _ _ _))⟩)))
      repeat (go_quiet (first|(go_at_call 168;(with_reducible refine (eI.calls (bt bw aT) true _ A7.out).mono ?_);rintro e w' ⟨rfl,⟨nd,rfl⟩⟩;(try first|exact ⟨rfl,_,World.drewN_drewN _ _ _⟩|exact ⟨rfl,_,Eq.trans (World.drewN_drewN _ _ _) (congrArg (World.drewN _) (Nat.add_assoc _ _ _))⟩)));try go_wp2_with (first|(go_at_call 168;(with_reducible refine (eI.calls (bt bw aT) true _ A7.out).mono ?_);rintro e w' ⟨rfl,⟨nd,rfl⟩⟩;(try first|exact ⟨rfl,_,World.drewN_drewN _ _ _⟩|exact ⟨rfl,_,Eq.trans (World.drewN_drewN _ _ _) (congrArg (World.drewN _) (Nat.add_assoc _ _ _))⟩))))
      go_roundg k1
      case measure=>have:=uz.out;omega
      case rel=>exact ⟨(bw),(wrap64 (aT + 1)),H',⟨kX⟩,⟨gU⟩,⟨ez⟩,⟨gT⟩⟩
     ·replace c8:=Bool.eq_false_iff.mpr c8
      subst c8
      have H1:(if 0≤cK then (if cK≤aT then (if aT≤(bw.size:Int) then (some (bw.extract (cK:Int).toNat (aT:Int).toNat,decide (aT > cK),bw,aT)) else (none)) else (none)) else (none))=some (r1,r2,r3,r4):=by rw [if_neg (show ¬ (false=true) by decide)] at H;exact H
      clear H
      have H:=H1
      clear H1
      by_cases c10: 0≤cK
      ·rw [if_pos c10] at H
       have qy:=eq_true c10
       have CD:decide (0≤cK)=true:=decide_eq_true c10
       clear c10
       by_cases c11:cK≤aT
       ·rw [if_pos c11] at H
        have zg:=eq_true c11
        have LH:decide (cK≤aT)=true:=decide_eq_true c11
        clear c11
        by_cases c12:aT≤(bw.size:Int)
        ·rw [if_pos c12] at H
         have wQ:=eq_true c12
         have CE:decide (aT≤(bw.size:Int))=true:=decide_eq_true c12
         clear c12
         simp only [Option.some.injEq,Prod.mk.injEq] at H
         obtain ⟨rfl,rfl,rfl,rfl⟩:=H
         obtain ⟨qz,LI⟩:=dx.out
         have qi:=dI qz
         have qj:=dB qz
         have qm:=aa qz 0
         have qo:=aa qz 1
         clear qz LI
         have p6: 0≤(aT:Int):=of_decide_eq_true cL
         have q6:aT < (bw.size:Int):=of_decide_eq_true cL
         have hx6:=gI bw aT
         replace p6:=eq_true p6
         replace q6:=eq_true q6
         go_wp2_with (first|(go_at_call 168;(with_reducible refine (eI.calls (bt bw aT) false _ A7.out).mono ?_);rintro e w' ⟨rfl,⟨nd,rfl⟩⟩;(try first|exact ⟨rfl,_,World.drewN_drewN _ _ _⟩|exact ⟨rfl,_,Eq.trans (World.drewN_drewN _ _ _) (congrArg (World.drewN _) (Nat.add_assoc _ _ _))⟩)))
         repeat (go_quiet (first|(go_at_call 168;(with_reducible refine (eI.calls (bt bw aT) false _ A7.out).mono ?_);rintro e w' ⟨rfl,⟨nd,rfl⟩⟩;(try first|exact ⟨rfl,_,World.drewN_drewN _ _ _⟩|exact ⟨rfl,_,Eq.trans (World.drewN_drewN _ _ _) (congrArg (World.drewN _) (Nat.add_assoc _ _ _))⟩)));try go_wp2_with (first|(go_at_call 168;(with_reducible refine (eI.calls (bt bw aT) false _ A7.out).mono ?_);rintro e w' ⟨rfl,⟨nd,rfl⟩⟩;(try first|exact ⟨rfl,_,World.drewN_drewN _ _ _⟩|exact ⟨rfl,_,Eq.trans (World.drewN_drewN _ _ _) (congrArg (World.drewN _) (Nat.add_assoc _ _ _))⟩))))
         go_ret2
         exact ⟨cO,gU,gT,ez⟩
        ·rw [if_neg c12] at H
         exact absurd H aV
       ·rw [if_neg c11] at H
        exact absurd H aV
      ·rw [if_neg c10] at H
       exact absurd H aV
    ·rw [if_neg c5] at H
     exact absurd H aV
   ·rw [if_neg c4] at H
    have oC:decide (aT < (bw.size:Int))=false:=decide_eq_false c4
    clear c4
    by_cases c14: 0≤cK
    ·rw [if_pos c14] at H
     have LJ:=eq_true c14
     have LK:decide (0≤cK)=true:=decide_eq_true c14
     clear c14
     by_cases c15:cK≤aT
     ·rw [if_pos c15] at H
      have E0:=eq_true c15
      have Qg:decide (cK≤aT)=true:=decide_eq_true c15
      clear c15
      by_cases c16:aT≤(bw.size:Int)
      ·rw [if_pos c16] at H
       have ZA:=eq_true c16
       have ZB:decide (aT≤(bw.size:Int))=true:=decide_eq_true c16
       clear c16
       simp only [Option.some.injEq,Prod.mk.injEq] at H
       obtain ⟨rfl,rfl,rfl,rfl⟩:=H
       obtain ⟨qA,LL⟩:=dx.out
       have sH:=dI qA
       have sI:=dB qA
       have sJ:=aa qA 0
       have sK:=aa qA 1
       clear qA LL
       go_wp2
       repeat (go_quiet (fail);try go_wp2)
       go_ret2
       exact ⟨cO,gU,gT,ez⟩
      ·rw [if_neg c16] at H
       exact absurd H aV
     ·rw [if_neg c15] at H
      exact absurd H aV
    ·rw [if_neg c14] at H
     exact absurd H aV
def eY.f (k:Nat) (eP:ByteArray) (cK:Int):Option (Bool×ByteArray×Int):=(aK.f k eP cK).bind fun kT=>(if kT.2.1=true then (if 0 < (kT.1.size:Int) then (if (bt kT.1 0)=45 then (some (false,kT.2.2.1,kT.2.2.2)) else (if 0≤(wrap64 ((kT.1.size:Int) - 1)) then (if (wrap64 ((kT.1.size:Int) - 1)) < (kT.1.size:Int) then (some (((bt kT.1 (wrap64 ((kT.1.size:Int) - 1))) != 45),kT.2.2.1,kT.2.2.2)) else (none)) else (none))) else (none)) else (some (false,kT.2.2.1,kT.2.2.2)))
theorem eY.mono:∀ a0 a1 k,cH (eY.f k a0 a1) (eY.f (k + 1) a0 a1):=by
 intro a0 a1 k
 unfold eY.f
 repeat' first
  |(with_reducible exact aK.mono _ _ _)
  |(with_reducible exact cH.refl _)
  |(with_reducible exact cH.none _)
  |(with_reducible refine cH.ite ?_ ?_)
  |(with_reducible refine cH.bind ?_ (fun _ =>?_))
  |refine cH.ite ?_ ?_
  |refine cH.bind ?_ (fun _ =>?_)
theorem eY.calls (k:Nat) (g:Nat) (eP:ByteArray) (cK:Int) (r1:Bool) (r2:ByteArray) (r3:Int) (w0 w:World) (hI:ay w0 w g eP cK) (hB:Below w0.heap.size w0 w) (h:eY.f k eP cK=some (r1,r2,r3)):
 Calls Tryz.prog 129 #[.pointer (some ⟨g,0,none⟩)] w fun e w'=>e= .returned (.bool r1)∧ay w0 w' g r2 r3∧Below w0.heap.size w0 w'∧br w w' g none:=by
 have dx:=ah.mk hI
 have HK:=ah.mk (br.refl w g none)
 have HL:=ah.mk hB.size
 clear hI
 have TQ:=ah.mk hB.size
 have HB:=ah.mk hB
 clear hB
 have H:((aK.f k eP cK).bind fun kT=>(if kT.2.1=true then (if 0 < (kT.1.size:Int) then (if (bt kT.1 0)=45 then (some (false,kT.2.2.1,kT.2.2.2)) else (if 0≤(wrap64 ((kT.1.size:Int) - 1)) then (if (wrap64 ((kT.1.size:Int) - 1)) < (kT.1.size:Int) then (some (((bt kT.1 (wrap64 ((kT.1.size:Int) - 1))) != 45),kT.2.2.1,kT.2.2.2)) else (none)) else (none))) else (none)) else (some (false,kT.2.2.1,kT.2.2.2))))=some (r1,r2,r3):=h
 clear h
 replace H:=Option.bind_eq_some_iff.mp H
 obtain ⟨⟨t111,t112,t113,t114⟩,nr,H⟩:=H
 replace H:(if t112=true then (if 0 < (t111.size:Int) then (if (bt t111 0)=45 then (some (false,t113,t114)) else (if 0≤(wrap64 ((t111.size:Int) - 1)) then (if (wrap64 ((t111.size:Int) - 1)) < (t111.size:Int) then (some (((bt t111 (wrap64 ((t111.size:Int) - 1))) != 45),t113,t114)) else (none)) else (none))) else (none)) else (some (false,t113,t114)))=some (r1,r2,r3):=H
 have A2:=ah.mk nr
 clear nr
 by_cases c3:t112=true
 ·subst c3
  have H1:(if 0 < (t111.size:Int) then (if (bt t111 0)=45 then (some (false,t113,t114)) else (if 0≤(wrap64 ((t111.size:Int) - 1)) then (if (wrap64 ((t111.size:Int) - 1)) < (t111.size:Int) then (some (((bt t111 (wrap64 ((t111.size:Int) - 1))) != 45),t113,t114)) else (none)) else (none))) else (none))=some (r1,r2,r3):=by rw [if_pos rfl] at H;exact H
  clear H
  have H:=H1
  clear H1
  by_cases c4: 0 < (t111.size:Int)
  ·rw [if_pos c4] at H
   have oC:decide (0 < (t111.size:Int))=true:=decide_eq_true c4
   have Ge:decide (0 < t111.size)=true:=decide_eq_true aq
   clear c4
   by_cases c6:(bt t111 0)=45
   ·rw [if_pos c6] at H
    have pP:((bt t111 0) == 45)=true:=beq_iff_eq.mpr c6
    have BU:((bt t111 0) != 45)=false:=bne_eq_false_iff_eq.mpr c6
    clear c6
    simp only [Option.some.injEq,Prod.mk.injEq] at H
    obtain ⟨rfl,rfl,rfl⟩:=H
    go_enter Tryz.func129,Tryz.ntmps129
    go_wp2_with (first|((with_reducible refine aU (f:=119) rfl ?_);refine cB (some 7) rfl rfl Tryz.func119 av rfl #[.pointer (some ⟨g,0,none⟩),.func (.func 168) #[] #[]] rfl cX ?_;(with_reducible refine (aK.calls k g eP cK t111 true t113 t114 w0 _ ?aW ?bY A2.out).mono ?_);(case aW=>repeat (first|(with_reducible first|exact dx.out|apply ay.alloc|apply ay.drewN|apply ay.drew|apply ay.fH|apply ay.fD)|exact dx.out));(case bY=>repeat (first|(with_reducible first|exact HB.out|apply aG|apply aM|apply bn|refine bh ?_ (ay.ge dx.out))|exact HB.out));rintro e w7 ⟨rfl,hi,hb,hk⟩;refine ⟨_,rfl,?_⟩;have bL:=ah.mk (br.trans ez hk (.inl rfl));have bS:=ah.mk (hb);have cG:=ah.mk (hi);clear HK;clear HB;clear dx;have HK:=bL;have HB:=bS;have dx:=cG;clear bL bS cG;(try clear hb);(try clear hb2);(try clear hk);(try clear hi);have p5: 0≤(0:Int):=aq;have q5: 0 < t111.size:=(by have:(0:Int) < (t111.size:Int):=of_decide_eq_true cL;omega);have hx5:∀ h: 0 < t111.size,((t111[0]'h).toNat:Int)=bt t111 0:=gI t111 0;clear p5;have qi5:(0 < (t111.size:Int))=True:=eq_true (of_decide_eq_true cL);replace q5:=eq_true q5))
    go_ret
    exact ⟨cO,gU,gT,ez⟩
   ·rw [if_neg c6] at H
    have pP:((bt t111 0) == 45)=false:=beq_eq_false_iff_ne.mpr c6
    have BU:((bt t111 0) != 45)=true:=bne_iff_ne.mpr c6
    obtain ⟨UF,UG⟩:∃ j_:Int,(wrap64 ((t111.size:Int) - 1))=j_ :=⟨_,rfl⟩
    replace H:(if 0≤(UF) then (if (UF) < (t111.size:Int) then (some (((bt t111 (UF)) != 45),t113,t114)) else (none)) else (none))=some (r1,r2,r3):=by first|(rw [UG] at H;exact H)|(simp only [UG] at H ⊢;exact H)
    (try rw [UG] at A2)
    have ajm:(IntKind.i64.wrap ((t111.size:Int) - 1))=UF:=(cR _).trans UG
    by_cases c9: 0≤(UF)
    ·rw [if_pos c9] at H
     have SI:decide (0≤(UF))=true:=decide_eq_true c9
     clear c9
     by_cases c10:(UF) < (t111.size:Int)
     ·rw [if_pos c10] at H
      have qy:decide ((UF) < (t111.size:Int))=true:=decide_eq_true c10
      clear c10
      simp only [Option.some.injEq,Prod.mk.injEq] at H
      obtain ⟨rfl,rfl,rfl⟩:=H
      go_enter Tryz.func129,Tryz.ntmps129
      go_wp2_with (first|((with_reducible refine aU (f:=119) rfl ?_);refine cB (some 7) rfl rfl Tryz.func119 av rfl #[.pointer (some ⟨g,0,none⟩),.func (.func 168) #[] #[]] rfl cX ?_;(with_reducible refine (aK.calls k g eP cK t111 true t113 t114 w0 _ ?aW ?bY A2.out).mono ?_);(case aW=>repeat (first|(with_reducible first|exact dx.out|apply ay.alloc|apply ay.drewN|apply ay.drew|apply ay.fH|apply ay.fD)|exact dx.out));(case bY=>repeat (first|(with_reducible first|exact HB.out|apply aG|apply aM|apply bn|refine bh ?_ (ay.ge dx.out))|exact HB.out));rintro e SJ ⟨rfl,hi,hb,hk⟩;refine ⟨_,rfl,?_⟩;have bL:=ah.mk (br.trans ez hk (.inl rfl));have bS:=ah.mk (hb);have cG:=ah.mk (hi);clear HK;clear HB;clear dx;have HK:=bL;have HB:=bS;have dx:=cG;clear bL bS cG;(try clear hb);(try clear hb2);(try clear hk);(try clear hi);have p5: 0≤(0:Int):=aq;have q5: 0 < t111.size:=(by have:(0:Int) < (t111.size:Int):=of_decide_eq_true cL;omega);have hx5:∀ h: 0 < t111.size,((t111[0]'h).toNat:Int)=bt t111 0:=gI t111 0;clear p5;have qi5:(0 < (t111.size:Int))=True:=eq_true (of_decide_eq_true cL);replace q5:=eq_true q5;have p11: 0≤((UF):Int):=of_decide_eq_true cL;have q11:(UF) < (t111.size:Int):=of_decide_eq_true cL;have alD:=gI t111 (UF);replace p11:=eq_true p11;replace q11:=eq_true q11))
      go_ret
      exact ⟨by first|rfl|(simp [lu,lA]<;>rfl)|(simp only [← UG];first|rfl|(simp [lu,lA]<;>rfl))|(simp [*,lu,lA]<;>rfl),gU,gT,ez⟩
     ·rw [if_neg c10] at H
      exact absurd H aV
    ·rw [if_neg c9] at H
     exact absurd H aV
  ·rw [if_neg c4] at H
   exact absurd H aV
 ·replace c3:=Bool.eq_false_iff.mpr c3
  subst c3
  have H1:(some (false,t113,t114))=some (r1,r2,r3):=by rw [if_neg (show ¬ (false=true) by decide)] at H;exact H
  clear H
  have H:=H1
  clear H1
  simp only [Option.some.injEq,Prod.mk.injEq] at H
  obtain ⟨rfl,rfl,rfl⟩:=H
  go_enter Tryz.func129,Tryz.ntmps129
  go_wp2_with (first|((with_reducible refine aU (f:=119) rfl ?_);refine cB (some 7) rfl rfl Tryz.func119 av rfl #[.pointer (some ⟨g,0,none⟩),.func (.func 168) #[] #[]] rfl cX ?_;(with_reducible refine (aK.calls k g eP cK t111 false t113 t114 w0 _ ?aW ?bY A2.out).mono ?_);(case aW=>repeat (first|(with_reducible first|exact dx.out|apply ay.alloc|apply ay.drewN|apply ay.drew|apply ay.fH|apply ay.fD)|exact dx.out));(case bY=>repeat (first|(with_reducible first|exact HB.out|apply aG|apply aM|apply bn|refine bh ?_ (ay.ge dx.out))|exact HB.out));rintro e nj ⟨rfl,hi,hb,hk⟩;refine ⟨_,rfl,?_⟩;have bL:=ah.mk (br.trans ez hk (.inl rfl));have bS:=ah.mk (hb);have cG:=ah.mk (hi);clear HK;clear HB;clear dx;have HK:=bL;have HB:=bS;have dx:=cG;clear bL bS cG;(try clear hb);(try clear hb2);(try clear hk);(try clear hi)))
  go_ret
  exact ⟨cO,gU,gT,ez⟩
def aN.l0:Nat→Int→ByteArray→Int→Option (Bool×ByteArray×Int)
 | 0,_,_,_ =>none
 |k + 1,x1,gM,fM=>(eY.f k gM fM).bind fun LM=>(if LM.1=true then ((bf.f LM.2.1 LM.2.2 x1).bind fun qC=>(if qC.1=true then (aN.l0 k x1 qC.2.1 qC.2.2) else (some (true,qC.2.1,qC.2.2)))) else (some (false,LM.2.1,LM.2.2)))
def aN.f (k:Nat) (eP:ByteArray) (cK:Int) (a1:Int):Option (Bool×ByteArray×Int):=aN.l0 k a1 eP cK
theorem aN.fJ:∀ k,(∀ y0 y1 y2,cH (aN.l0 k y0 y1 y2) (aN.l0 (k + 1) y0 y1 y2))
 | 0=>fun _ _ _ r h=>by simp [aN.l0] at h
 |k + 1=>by
  have nP:=aN.fJ k
  ·intro y0 y1 y2
   unfold aN.l0
   repeat' first
   |(with_reducible exact nP _ _ _)
   |(with_reducible exact eY.mono _ _ _)
   |(with_reducible exact cH.refl _)
   |(with_reducible exact cH.none _)
   |(with_reducible refine cH.ite ?_ ?_)
   |(with_reducible refine cH.bind ?_ (fun _ =>?_))
   |refine cH.ite ?_ ?_
   |refine cH.bind ?_ (fun _ =>?_)
theorem aN.mono:∀ a0 a1 a2 k,cH (aN.f k a0 a1 a2) (aN.f (k + 1) a0 a1 a2):=by
 intro a0 a1 a2 k
 have nP:=aN.fJ k
 unfold aN.f
 repeat' first
  |(with_reducible exact nP _ _ _)
  |(with_reducible exact eY.mono _ _ _)
  |(with_reducible exact cH.refl _)
  |(with_reducible exact cH.none _)
  |(with_reducible refine cH.ite ?_ ?_)
  |(with_reducible refine cH.bind ?_ (fun _ =>?_))
  |refine cH.ite ?_ ?_
  |refine cH.bind ?_ (fun _ =>?_)
theorem aN.calls (k:Nat) (g:Nat) (eP:ByteArray) (cK:Int) (a1:Int) (r1:Bool) (r2:ByteArray) (r3:Int) (w0 w:World) (hI:ay w0 w g eP cK) (hB:Below w0.heap.size w0 w) (h:aN.f k eP cK a1=some (r1,r2,r3)):
 Calls Tryz.prog 67 #[.pointer (some ⟨g,0,none⟩),.int .u8 a1,.func (.func 129) #[.pointer (some ⟨g,0,none⟩)] #[]] w fun e w'=>e= .returned (.bool r1)∧ay w0 w' g r2 r3∧Below w0.heap.size w0 w'∧br w w' g none:=by
 have dx:=ah.mk hI
 have HK:=ah.mk (br.refl w g none)
 have HL:=ah.mk hB.size
 clear hI
 have TQ:=ah.mk hB.size
 have HB:=ah.mk hB
 clear hB
 have H:(aN.l0 k a1 eP cK)=some (r1,r2,r3):=h
 clear h
 have H':=ah.mk H
 clear H
 go_enter Tryz.func67,Tryz.ntmps67
 go_wp2
 go_loopg [] k (fun kq w'=>∃ (bw:ByteArray) (aT:Int),ah (aN.l0 kq a1 bw aT=some (r1,r2,r3))∧ah (kq≤k)∧ah (ay w0 w' g bw aT)∧ah (br w w' g none)∧ah (Below w0.heap.size w0 w'))
 case atStart=>exact ⟨(eP),(cK),H',⟨Nat.le_refl _⟩,⟨gU⟩,⟨ez⟩,⟨gT⟩⟩
 case round=>
  clear H'
  try clear p2
  obtain ⟨bw,aT,HA,uz,dx,HK,HB⟩:=hrel
  cases gk with
  |zero=>exact absurd HA.out (by simp [aN.l0])
  |succ k1=>
   have H:=HA.out
   clear HA
   simp only [aN.l0] at H
   replace H:=Option.bind_eq_some_iff.mp H
   obtain ⟨⟨t115,t116,t117⟩,CC,H⟩:=H
   replace H:(if t115=true then ((bf.f t116 t117 a1).bind fun qC=>(if qC.1=true then (aN.l0 k1 a1 qC.2.1 qC.2.2) else (some (true,qC.2.1,qC.2.2)))) else (some (false,t116,t117)))=some (r1,r2,r3):=H
   have A4:=ah.mk CC
   clear CC
   by_cases c5:t115=true
   ·subst c5
    have H1:((bf.f t116 t117 a1).bind fun qC=>(if qC.1=true then (aN.l0 k1 a1 qC.2.1 qC.2.2) else (some (true,qC.2.1,qC.2.2))))=some (r1,r2,r3):=by rw [if_pos rfl] at H;exact H
    clear H
    have H:=H1
    clear H1
    replace H:=Option.bind_eq_some_iff.mp H
    obtain ⟨⟨t118,t119,t120⟩,wK,H⟩:=H
    replace H:(if t118=true then (aN.l0 k1 a1 t119 t120) else (some (true,t119,t120)))=some (r1,r2,r3):=H
    have A6:=ah.mk wK
    clear wK
    by_cases c7:t118=true
    ·subst c7
     have H1:(aN.l0 k1 a1 t119 t120)=some (r1,r2,r3):=by rw [if_pos rfl] at H;exact H
     clear H
     have H:=H1
     clear H1
     have H':=ah.mk H
     clear H
     go_wp2_with (first|(go_at_call 129;(with_reducible refine (eY.calls k1 g bw aT true t116 t117 w0 _ ?aW ?bY A4.out).mono ?_);(case aW=>repeat (first|(with_reducible first|exact dx.out|apply ay.alloc|apply ay.drewN|apply ay.drew|apply ay.fH|apply ay.fD)|exact dx.out));(case bY=>repeat (first|(with_reducible first|exact HB.out|apply aG|apply aM|apply bn|refine bh ?_ (ay.ge dx.out))|exact HB.out));rintro e w8 ⟨rfl,hi,hb,hk⟩;have bL:=ah.mk (br.trans ez hk (.inl rfl));have bS:=ah.mk (hb);have cG:=ah.mk (hi);clear HK;clear HB;clear dx;have HK:=bL;have HB:=bS;have dx:=cG;clear bL bS cG;(try clear hb);(try clear hb2);(try clear hk);(try clear hi))|((with_reducible refine aU (f:=56) rfl ?_);refine cB (some 11) rfl rfl Tryz.func56 av rfl #[.pointer (some ⟨g,0,none⟩),.int .u8 a1] rfl cX ?_;(with_reducible refine (bf.calls g t116 t117 a1 true t119 t120 w0 _ ?aW ?bY A6.out).mono ?_);(case aW=>repeat (first|(with_reducible first|exact dx.out|apply ay.alloc|apply ay.drewN|apply ay.drew|apply ay.fH|apply ay.fD)|exact dx.out));(case bY=>repeat (first|(with_reducible first|exact HB.out|apply aG|apply aM|apply bn|refine bh ?_ (ay.ge dx.out))|exact HB.out));rintro e w9 ⟨rfl,hi,hb,hk⟩;refine ⟨_,rfl,?_⟩;have bL:=ah.mk (br.trans ez hk (.inl rfl));have bS:=ah.mk (hb);have cG:=ah.mk (hi);clear HK;clear HB;clear dx;have HK:=bL;have HB:=bS;have dx:=cG;clear bL bS cG;(try clear hb);(try clear hb2);(try clear hk);(try clear hi)))
     go_roundg k1
     case measure=>have:=uz.out;omega
     case rel=>exact ⟨(t119),(t120),H',⟨kX⟩,⟨gU⟩,⟨ez⟩,⟨gT⟩⟩
    ·replace c7:=Bool.eq_false_iff.mpr c7
     subst c7
     have H1:(some (true,t119,t120))=some (r1,r2,r3):=by rw [if_neg (show ¬ (false=true) by decide)] at H;exact H
     clear H
     have H:=H1
     clear H1
     simp only [Option.some.injEq,Prod.mk.injEq] at H
     obtain ⟨rfl,rfl,rfl⟩:=H
     go_wp2_with (first|(go_at_call 129;(with_reducible refine (eY.calls k1 g bw aT true t116 t117 w0 _ ?aW ?bY A4.out).mono ?_);(case aW=>repeat (first|(with_reducible first|exact dx.out|apply ay.alloc|apply ay.drewN|apply ay.drew|apply ay.fH|apply ay.fD)|exact dx.out));(case bY=>repeat (first|(with_reducible first|exact HB.out|apply aG|apply aM|apply bn|refine bh ?_ (ay.ge dx.out))|exact HB.out));rintro e sw ⟨rfl,hi,hb,hk⟩;have bL:=ah.mk (br.trans ez hk (.inl rfl));have bS:=ah.mk (hb);have cG:=ah.mk (hi);clear HK;clear HB;clear dx;have HK:=bL;have HB:=bS;have dx:=cG;clear bL bS cG;(try clear hb);(try clear hb2);(try clear hk);(try clear hi))|((with_reducible refine aU (f:=56) rfl ?_);refine cB (some 11) rfl rfl Tryz.func56 av rfl #[.pointer (some ⟨g,0,none⟩),.int .u8 a1] rfl cX ?_;(with_reducible refine (bf.calls g t116 t117 a1 false t119 t120 w0 _ ?aW ?bY A6.out).mono ?_);(case aW=>repeat (first|(with_reducible first|exact dx.out|apply ay.alloc|apply ay.drewN|apply ay.drew|apply ay.fH|apply ay.fD)|exact dx.out));(case bY=>repeat (first|(with_reducible first|exact HB.out|apply aG|apply aM|apply bn|refine bh ?_ (ay.ge dx.out))|exact HB.out));rintro e w11 ⟨rfl,hi,hb,hk⟩;refine ⟨_,rfl,?_⟩;have bL:=ah.mk (br.trans ez hk (.inl rfl));have bS:=ah.mk (hb);have cG:=ah.mk (hi);clear HK;clear HB;clear dx;have HK:=bL;have HB:=bS;have dx:=cG;clear bL bS cG;(try clear hb);(try clear hb2);(try clear hk);(try clear hi)))
     go_ret
     exact ⟨cO,gU,gT,ez⟩
   ·replace c5:=Bool.eq_false_iff.mpr c5
    subst c5
    have H1:(some (false,t116,t117))=some (r1,r2,r3):=by rw [if_neg (show ¬ (false=true) by decide)] at H;exact H
    clear H
    have H:=H1
    clear H1
    simp only [Option.some.injEq,Prod.mk.injEq] at H
    obtain ⟨rfl,rfl,rfl⟩:=H
    go_wp2_with (first|(go_at_call 129;(with_reducible refine (eY.calls k1 g bw aT false t116 t117 w0 _ ?aW ?bY A4.out).mono ?_);(case aW=>repeat (first|(with_reducible first|exact dx.out|apply ay.alloc|apply ay.drewN|apply ay.drew|apply ay.fH|apply ay.fD)|exact dx.out));(case bY=>repeat (first|(with_reducible first|exact HB.out|apply aG|apply aM|apply bn|refine bh ?_ (ay.ge dx.out))|exact HB.out));rintro e SJ ⟨rfl,hi,hb,hk⟩;have bL:=ah.mk (br.trans ez hk (.inl rfl));have bS:=ah.mk (hb);have cG:=ah.mk (hi);clear HK;clear HB;clear dx;have HK:=bL;have HB:=bS;have dx:=cG;clear bL bS cG;(try clear hb);(try clear hb2);(try clear hk);(try clear hi)))
    go_ret
    exact ⟨cO,gU,gT,ez⟩
def cg.f (k:Nat) (eP:ByteArray) (cK:Int):Option (ByteArray×Bool×ByteArray×Int):=(aN.f k eP cK 46).bind fun qD=>(if 0≤cK then (if cK≤qD.2.2 then (if qD.2.2≤(qD.2.1.size:Int) then ((cz.f (qD.2.1.extract (cK:Int).toNat (qD.2.2:Int).toNat)).bind fun t124=>(some (t124,qD.1,qD.2.1,qD.2.2))) else (none)) else (none)) else (none))
theorem cg.mono:∀ a0 a1 k,cH (cg.f k a0 a1) (cg.f (k + 1) a0 a1):=by
 intro a0 a1 k
 unfold cg.f
 repeat' first
  |(with_reducible exact aN.mono _ _ _ _)
  |(with_reducible exact cH.refl _)
  |(with_reducible exact cH.none _)
  |(with_reducible refine cH.ite ?_ ?_)
  |(with_reducible refine cH.bind ?_ (fun _ =>?_))
  |refine cH.ite ?_ ?_
  |refine cH.bind ?_ (fun _ =>?_)
def cg.T3:Bool×List (List Nat×List Nat):=(true,[([],[]),([0],[0]),([1],[1]),([2],[2]),([],[]),([],[]),([5],[5]),([6],[6]),([7],[7]),([3,4,8],[3,4,8]),([9],[9]),([],[]),([10,10,0,1,2,3,4,5,6,7,8,9,10],[10]),([11,12,0,1,2,3,4,5,6,7,8,9,10,11,12],[11])])
def cg.B3:List Nat:=[0,1,3,7,0,0,32,96,224,511,1023,0,2047,8191]
theorem cg.ah4:rR .any (opsOf Tryz.f80 3)=cg.T3:=by kernel_rfl
theorem cg.acW:uE cg.T3.2 cg.B3=true:=by kernel_rfl
theorem cg.calls (k:Nat) (g:Nat) (eP:ByteArray) (cK:Int) (r1:ByteArray) (r2:Bool) (r3:ByteArray) (r4:Int) (w0 w:World) (hI:ay w0 w g eP cK) (hB:Below w0.heap.size w0 w) (h:cg.f k eP cK=some (r1,r2,r3,r4)):
 Calls Tryz.prog 80 #[.pointer (some ⟨g,0,none⟩)] w fun e w'=>e= .returned (.tuple #[.string r1,.bool r2])∧ay w0 w' g r3 r4∧Below w0.heap.size w0 w'∧br w w' g none:=by
 have dx:=ah.mk hI
 have HK:=ah.mk (br.refl w g none)
 have HL:=ah.mk hB.size
 clear hI
 have TQ:=ah.mk hB.size
 have HB:=ah.mk hB
 clear hB
 have H:((aN.f k eP cK 46).bind fun qD=>(if 0≤cK then (if cK≤qD.2.2 then (if qD.2.2≤(qD.2.1.size:Int) then ((cz.f (qD.2.1.extract (cK:Int).toNat (qD.2.2:Int).toNat)).bind fun t124=>(some (t124,qD.1,qD.2.1,qD.2.2))) else (none)) else (none)) else (none)))=some (r1,r2,r3,r4):=h
 clear h
 replace H:=Option.bind_eq_some_iff.mp H
 obtain ⟨⟨t121,t122,t123⟩,nr,H⟩:=H
 replace H:(if 0≤cK then (if cK≤t123 then (if t123≤(t122.size:Int) then ((cz.f (t122.extract (cK:Int).toNat (t123:Int).toNat)).bind fun t124=>(some (t124,t121,t122,t123))) else (none)) else (none)) else (none))=some (r1,r2,r3,r4):=H
 have A2:=ah.mk nr
 clear nr
 by_cases c3: 0≤cK
 ·rw [if_pos c3] at H
  have pW:=eq_true c3
  have LN:decide (0≤cK)=true:=decide_eq_true c3
  clear c3
  by_cases c4:cK≤t123
  ·rw [if_pos c4] at H
   have oC:=eq_true c4
   have Ge:decide (cK≤t123)=true:=decide_eq_true c4
   clear c4
   by_cases c5:t123≤(t122.size:Int)
   ·rw [if_pos c5] at H
    have tR:=eq_true c5
    have UH:decide (t123≤(t122.size:Int))=true:=decide_eq_true c5
    clear c5
    replace H:=Option.bind_eq_some_iff.mp H
    obtain ⟨t124,wK,H⟩:=H
    replace H:(some (t124,t121,t122,t123))=some (r1,r2,r3,r4):=H
    have A6:=ah.mk wK
    clear wK
    simp only [Option.some.injEq,Prod.mk.injEq] at H
    obtain ⟨rfl,rfl,rfl,rfl⟩:=H
    obtain ⟨EP,aaE⟩:=dx.out
    have ER:=dI EP
    have ES:=dB EP
    have ET:=aa EP 0
    have EU:=aa EP 1
    clear EP aaE
    go_enter Tryz.func80,Tryz.ntmps80
    try go_wp2_with (first|((with_reducible refine aU (f:=67) rfl ?_);refine cB (some 13) rfl rfl Tryz.func67 av rfl #[.pointer (some ⟨g,0,none⟩),.int .u8 46,.func (.func 129) #[.pointer (some ⟨g,0,none⟩)] #[]] rfl cX ?_;(with_reducible refine (aN.calls k g eP cK 46 t121 t122 t123 w0 _ ?aW ?bY A2.out).mono ?_);(case aW=>repeat (first|(with_reducible first|exact dx.out|apply ay.alloc|apply ay.drewN|apply ay.drew|apply ay.fH|apply ay.fD)|exact dx.out));(case bY=>repeat (first|(with_reducible first|exact HB.out|apply aG|apply aM|apply bn|refine bh ?_ (ay.ge dx.out))|exact HB.out));rintro e w8 ⟨rfl,hi,hb,hk⟩;refine ⟨_,rfl,?_⟩;have bL:=ah.mk (br.trans ez hk (.inl rfl));have bS:=ah.mk (hb);have cG:=ah.mk (hi);clear HK;clear HB;clear dx;have HK:=bL;have HB:=bS;have dx:=cG;clear bL bS cG;(try clear hb);(try clear hb2);(try clear hk);(try clear hi)))
    have bL:=ah.mk (ay.drew dx.out)
    have bS:=ah.mk (xz HK.out)
    have cG:=ah.mk (bn HB.out)
    clear dx
    clear HK
    clear HB
    have dx:=bL
    have HK:=bS
    have HB:=cG
    clear bL bS cG
    refine BP (n:=14) (S:=fun w'=>w'.cell? ⟨g,0,none⟩=some (.string t122)∧w'.cell? ⟨g,1,none⟩=some (.int .i64 t123)) (ds:=[]) #[false,false,false,false,false,false,false,false,false,false,false,false,false,false] av (by rfl) (by rfl) ⟨dI dx.out.1,dB dx.out.1⟩ (fun hHeld=>?_);refine ue cg.ah4 cg.acW (fun lQ Oa=>?_)
    generalize w8.drew=w9 at dx HK HB hHeld ⊢
    refine eH (i:=0) (N:=some 14) (v:=?_) (a':=?_) #[true,false,false,false,false,false,false,false,false,false,false,false,false,false] rfl rfl (fG lQ.out av) (fun _ _ _ h=>h) (Or.inl ⟨by rfl,?_⟩) ?_ ?_
    rotate_left
    ·intro w'
     go_simp
     with_reducible rfl
    rotate_left
    ·simp only [Act.put,List.setIfInBounds_toArray,List.set_cons_zero,List.set_cons_succ,cR,cW]
     rfl
    refine eH (i:=1) (N:=some 15) (v:=?_) (a':=?_) #[true,true,false,false,false,false,false,false,false,false,false,false,false,false] rfl rfl (fG lQ.out av) (fun _ _ _ h=>h) (Or.inl ⟨by rfl,?_⟩) ?_ ?_
    rotate_left
    ·intro w'
     go_simp
     with_reducible rfl
    rotate_left
    ·simp only [Act.put,List.setIfInBounds_toArray,List.set_cons_zero,List.set_cons_succ,cR,cW]
     rfl
    refine eH (i:=2) (N:=some 16) (v:=?_) (a':=?_) #[true,true,true,false,false,false,false,false,false,false,false,false,false,false] rfl rfl (fG lQ.out av) (fun _ _ _ h=>h) (Or.inl ⟨by rfl,?_⟩) ?_ ?_
    rotate_left
    ·intro w'
     go_simp
     with_reducible rfl
    rotate_left
    ·simp only [Act.put,List.setIfInBounds_toArray,List.set_cons_zero,List.set_cons_succ,cR,cW]
     rfl
    refine eH (i:=4) (N:=some 18) (v:=?_) (a':=?_) #[true,true,true,false,true,false,false,false,false,false,false,false,false,false] rfl rfl (fG lQ.out av) (fun _ _ _ h=>h) (Or.inl ⟨by rfl,?_⟩) ?_ ?_
    rotate_left
    ·intro w'
     go_simp
     with_reducible rfl
    rotate_left
    ·simp only [Act.put,List.setIfInBounds_toArray,List.set_cons_zero,List.set_cons_succ,cR,cW]
     rfl
    refine eH (i:=5) (N:=some 19) (v:=?_) (a':=?_) #[true,true,true,false,true,true,false,false,false,false,false,false,false,false] rfl rfl (fG lQ.out av) (fun _ _ _ h=>h) (Or.inl ⟨by rfl,?_⟩) ?_ ?_
    rotate_left
    ·intro w'
     go_simp
     with_reducible rfl
    rotate_left
    ·simp only [Act.put,List.setIfInBounds_toArray,List.set_cons_zero,List.set_cons_succ,cR,cW]
     rfl
    refine eH (i:=6) (N:=some 20) (v:=?_) (a':=?_) #[true,true,true,false,true,true,true,false,false,false,false,false,false,false] rfl rfl (fG lQ.out av) (fun _ _ _ h=>h) (Or.inl ⟨by rfl,?_⟩) ?_ ?_
    rotate_left
    ·intro w'
     go_simp
     with_reducible rfl
    rotate_left
    ·simp only [Act.put,List.setIfInBounds_toArray,List.set_cons_zero,List.set_cons_succ,cR,cW]
     rfl
    refine eH (i:=7) (N:=some 21) (v:=?_) (a':=?_) #[true,true,true,false,true,true,true,true,false,false,false,false,false,false] rfl rfl (fG lQ.out av) (fun _ _ _ h=>h) (Or.inl ⟨by rfl,?_⟩) ?_ ?_
    rotate_left
    ·intro w'
     go_simp
     with_reducible rfl
    rotate_left
    ·simp only [Act.put,List.setIfInBounds_toArray,List.set_cons_zero,List.set_cons_succ,cR,cW]
     rfl
    refine eH (i:=11) (N:=some 25) (v:=?_) (a':=?_) #[true,true,true,false,true,true,true,true,false,false,false,true,false,false] rfl rfl (fG lQ.out av) (fun _ _ _ h=>h) (Or.inl ⟨by rfl,?_⟩) ?_ ?_
    rotate_left
    ·intro w'
     go_simp
     with_reducible rfl
    rotate_left
    ·simp only [Act.put,List.setIfInBounds_toArray,List.set_cons_zero,List.set_cons_succ,cR,cW]
     rfl
    refine mV (i:=3) (N:=some 17) (v:=?_) (a':=?_) #[true,true,true,true,true,true,true,true,false,false,false,true,false,false] rfl rfl (mW lQ.out Oa.out av) (fun _ _ _ h=>h) (Or.inl ⟨by rfl,?_⟩) hHeld ?_ ?_
    rotate_left
    ·rintro w' ⟨s0,s1⟩
     go_simp
     with_reducible rfl
    rotate_left
    ·simp only [Act.put,List.setIfInBounds_toArray,List.set_cons_zero,List.set_cons_succ,cR,cW]
     rfl
    refine mV (i:=8) (N:=some 22) (v:=?_) (a':=?_) #[true,true,true,true,true,true,true,true,true,false,false,true,false,false] rfl rfl (mW lQ.out Oa.out av) (fun _ _ _ h=>h) (Or.inl ⟨by rfl,?_⟩) hHeld ?_ ?_
    rotate_left
    ·rintro w' ⟨s0,s1⟩
     go_simp
     with_reducible rfl
    rotate_left
    ·simp only [Act.put,List.setIfInBounds_toArray,List.set_cons_zero,List.set_cons_succ,cR,cW]
     rfl
    refine eH (i:=9) (N:=some 23) (v:=?_) (a':=?_) #[true,true,true,true,true,true,true,true,true,true,false,true,false,false] rfl rfl (fG lQ.out av) (fun _ _ _ h=>h) (Or.inl ⟨by rfl,?_⟩) ?_ ?_
    rotate_left
    ·intro w'
     go_simp
     with_reducible rfl
    rotate_left
    ·simp only [Act.put,List.setIfInBounds_toArray,List.set_cons_zero,List.set_cons_succ,cR,cW]
     rfl
    refine Ix (i:=10) (N:=some 24) #[true,true,true,true,true,true,true,true,true,true,true,true,false,false] rfl rfl (wH lQ.out av) bG (fun K hK=>?_)
    refine Cw Tryz.func81 av rfl #[.string (t122.extract (cK:Int).toNat (t123:Int).toNat)] (by rfl) rfl rfl cX ?_
    with_reducible refine (cz.calls (t122.extract (cK:Int).toNat (t123:Int).toNat) t124 _ A6.out).mono ?_
    rintro e sw ⟨rfl,hb⟩
    have ah5:=(hb.cell (World.block_lt_of_cell? _ _ (hHeld.1))).trans (hHeld.1)
    have ah6:=(hb.cell (World.block_lt_of_cell? _ _ (hHeld.2))).trans (hHeld.2)
    refine ⟨_,rfl,?_⟩
    have bL:=ah.mk (ay.below gU hb)
    have bS:=ah.mk (br.trans ez (br.of_below hb g none) (.inl rfl))
    have cG:=ah.mk (aC gT hb)
    clear dx
    clear HK
    clear HB
    have dx:=bL
    have HK:=bS
    have HB:=cG
    clear bL bS cG
    (try clear hb)
    (try clear hb2)
    (try clear hk)
    (try clear hi)
    refine hK.out _ _ ⟨ah5,ah6⟩ (fun hHeld=>?_)
    clear hK K
    refine Cv (a':=?_) ?_ ?_
    rotate_left
    ·show Act.put _ (some 24) _=_
     simp only [Act.put,List.setIfInBounds_toArray,List.set_cons_zero,List.set_cons_succ,cR,cW]
     rfl
    refine eH (i:=12) (N:=some 2) (v:=?_) (a':=?_) #[true,true,true,true,true,true,true,true,true,true,true,true,true,false] rfl rfl (fG lQ.out av) (fun _ _ _ h=>h) (Or.inl ⟨by rfl,?_⟩) ?_ ?_
    rotate_left
    ·intro w'
     go_simp
     with_reducible rfl
    rotate_left
    ·simp only [Act.put,List.setIfInBounds_toArray,List.set_cons_zero,List.set_cons_succ,cR,cW]
     rfl
    refine eH (i:=13) (N:=some 3) (v:=?_) (a':=?_) #[true,true,true,true,true,true,true,true,true,true,true,true,true,true] rfl rfl (fG lQ.out av) (fun _ _ _ h=>h) (Or.inl ⟨by rfl,?_⟩) ?_ ?_
    rotate_left
    ·intro w'
     go_simp
     with_reducible rfl
    rotate_left
    ·simp only [Act.put,List.setIfInBounds_toArray,List.set_cons_zero,List.set_cons_succ,cR,cW]
     rfl
    refine GD (zX lQ.out av) ?_
    try go_wp2
    go_ret2
    exact ⟨cO,gU,gT,ez⟩
   ·rw [if_neg c5] at H
    exact absurd H aV
  ·rw [if_neg c4] at H
   exact absurd H aV
 ·rw [if_neg c3] at H
  exact absurd H aV
def eD.f (k:Nat) (a0:ByteArray):Option (Bool):=(cg.f k a0 0).bind fun LP=>(if LP.2.1=true then (if LP.2.2.2=(a0.size:Int) then ((eK.f k a0).bind fun t130=>(some t130)) else (some false)) else (some false))
theorem eD.mono:∀ a0 k,cH (eD.f k a0) (eD.f (k + 1) a0):=by
 intro a0 k
 unfold eD.f
 repeat' first
  |(with_reducible exact cg.mono _ _ _)
  |(with_reducible exact eK.mono _ _)
  |(with_reducible exact cH.refl _)
  |(with_reducible exact cH.none _)
  |(with_reducible refine cH.ite ?_ ?_)
  |(with_reducible refine cH.bind ?_ (fun _ =>?_))
  |refine cH.ite ?_ ?_
  |refine cH.bind ?_ (fun _ =>?_)
theorem eD.calls (k:Nat) (a0:ByteArray) (r:Bool) (w:World) (hG:aQ w) (h:eD.f k a0=some r):
 Calls Tryz.prog 25 #[.string a0] w fun e w'=>e= .returned (.bool r)∧Below w.heap.size w w':=by
 have ah7:=Tryz.underlying82
 have HB:=ah.mk (Below.refl w.heap.size w)
 have HG:=ah.mk hG
 clear hG
 have H:((cg.f k a0 0).bind fun LP=>(if LP.2.1=true then (if LP.2.2.2=(a0.size:Int) then ((eK.f k a0).bind fun t130=>(some t130)) else (some false)) else (some false)))=some r:=h
 clear h
 replace H:=Option.bind_eq_some_iff.mp H
 obtain ⟨⟨t126,t127,t128,t129⟩,nr,H⟩:=H
 replace H:(if t127=true then (if t129=(a0.size:Int) then ((eK.f k a0).bind fun t130=>(some t130)) else (some false)) else (some false))=some r:=H
 have A2:=ah.mk nr
 clear nr
 by_cases c3:t127=true
 ·subst c3
  have H1:(if t129=(a0.size:Int) then ((eK.f k a0).bind fun t130=>(some t130)) else (some false))=some r:=by rw [if_pos rfl] at H;exact H
  clear H
  have H:=H1
  clear H1
  by_cases c4:t129=(a0.size:Int)
  ·rw [if_pos c4] at H
   have oC:(t129 == (a0.size:Int))=true:=beq_iff_eq.mpr c4
   have Ge:(t129 != (a0.size:Int))=false:=bne_eq_false_iff_eq.mpr c4
   clear c4
   replace H:=Option.bind_eq_some_iff.mp H
   obtain ⟨t130,Qh,H⟩:=H
   replace H:(some t130)=some r:=H
   have A5:=ah.mk Qh
   clear Qh
   obtain rfl:=Option.some.inj H
   go_enter Tryz.func25,Tryz.ntmps25
   go_wp2_with (first|((with_reducible refine cQ (N:=8) rfl ?_);(try (refine dS (by rfl) ?_;dsimp only));refine cE ?hg (N:=8) ?hd (cs:=#[.string a0,.int .i64 0]) (t:=82) ?hr ?_;(case hd=>rfl);(case hg=>rfl);(case hr=>first|(go_simp;done)|(go_simp;rfl));intro qE hg w6 cY hb;have bL:=ah.mk (aC cw hb);have bS:=ah.mk ((⟨cY,dQ⟩:ay w w6 qE a0 0));have cG:=ah.mk ((dQ:w.heap.size≤qE));have dA:=ah.mk ((dQ:w.heap.size≤qE));clear HB;have HB:=bL;have mN:=bS;have ZC:=cG;have ZE:=dA;clear bL bS cG dA;clear hb cY hg)|((with_reducible refine aU (f:=80) rfl ?_);refine cB (some 11) rfl rfl Tryz.func80 av rfl #[.pointer (some ⟨qE,0,none⟩)] rfl cX ?_;(with_reducible refine (cg.calls k qE a0 0 t126 true t128 t129 w _ ?aW ?bY A2.out).mono ?_);(case aW=>repeat (first|(with_reducible first|exact mN.out|apply ay.alloc|apply ay.drewN|apply ay.drew|apply ay.fH|apply ay.fD)|exact mN.out));(case bY=>repeat (first|(with_reducible first|exact HB.out|apply aG|apply aM|apply bn|refine bh ?_ (ay.ge mN.out))|exact HB.out));rintro e w7 ⟨rfl,hi,hb,hk⟩;refine ⟨_,rfl,?_⟩;have bL:=ah.mk (hb);have bS:=ah.mk (hi);clear HB;clear mN;have HB:=bL;have mN:=bS;clear bL bS;(try clear hb);(try clear hb2);(try clear hk);(try clear hi);obtain ⟨EW,aaF⟩:=mN.out;have wL:=dI EW;have wM:=dB EW;have wN:=aa EW 0;have wO:=aa EW 1;clear EW aaF)|(go_at_call 61;(with_reducible refine (eK.calls k a0 t130 _ ?aW A5.out).mono ?_);(case aW=>exact aQ.below HG.out EB);rintro e w9 ⟨rfl,hb⟩;have bL:=ah.mk (ay.below (by repeat (first|(with_reducible first|exact mN.out|apply ay.alloc|apply ay.drewN|apply ay.drew|apply ay.fH|apply ay.fD)|exact mN.out)) hb);have bS:=ah.mk (aC EB hb);clear mN;clear HB;have mN:=bL;have HB:=bS;clear bL bS;(try clear hb);(try clear hb2);(try clear hk);(try clear hi)))
   go_ret
   exact ⟨cO,EB⟩
  ·rw [if_neg c4] at H
   have oC:(t129 == (a0.size:Int))=false:=beq_eq_false_iff_ne.mpr c4
   have Ge:(t129 != (a0.size:Int))=true:=bne_iff_ne.mpr c4
   obtain rfl:=Option.some.inj H
   go_enter Tryz.func25,Tryz.ntmps25
   go_wp2_with (first|((with_reducible refine cQ (N:=8) rfl ?_);(try (refine dS (by rfl) ?_;dsimp only));refine cE ?hg (N:=8) ?hd (cs:=#[.string a0,.int .i64 0]) (t:=82) ?hr ?_;(case hd=>rfl);(case hg=>rfl);(case hr=>first|(go_simp;done)|(go_simp;rfl));intro qE hg sw cY hb;have bL:=ah.mk (aC cw hb);have bS:=ah.mk ((⟨cY,dQ⟩:ay w sw qE a0 0));have cG:=ah.mk ((dQ:w.heap.size≤qE));have dA:=ah.mk ((dQ:w.heap.size≤qE));clear HB;have HB:=bL;have mN:=bS;have ZC:=cG;have ZE:=dA;clear bL bS cG dA;clear hb cY hg)|((with_reducible refine aU (f:=80) rfl ?_);refine cB (some 11) rfl rfl Tryz.func80 av rfl #[.pointer (some ⟨qE,0,none⟩)] rfl cX ?_;(with_reducible refine (cg.calls k qE a0 0 t126 true t128 t129 w _ ?aW ?bY A2.out).mono ?_);(case aW=>repeat (first|(with_reducible first|exact mN.out|apply ay.alloc|apply ay.drewN|apply ay.drew|apply ay.fH|apply ay.fD)|exact mN.out));(case bY=>repeat (first|(with_reducible first|exact HB.out|apply aG|apply aM|apply bn|refine bh ?_ (ay.ge mN.out))|exact HB.out));rintro e w11 ⟨rfl,hi,hb,hk⟩;refine ⟨_,rfl,?_⟩;have bL:=ah.mk (hb);have bS:=ah.mk (hi);clear HB;clear mN;have HB:=bL;have mN:=bS;clear bL bS;(try clear hb);(try clear hb2);(try clear hk);(try clear hi);obtain ⟨LQ,acX⟩:=mN.out;have uF:=dI LQ;have uG:=dB LQ;have uH:=aa LQ 0;have uI:=aa LQ 1;clear LQ acX))
   go_ret
   exact ⟨cO,EB⟩
 ·replace c3:=Bool.eq_false_iff.mpr c3
  subst c3
  have H1:(some false)=some r:=by rw [if_neg (show ¬ (false=true) by decide)] at H;exact H
  clear H
  have H:=H1
  clear H1
  obtain rfl:=Option.some.inj H
  go_enter Tryz.func25,Tryz.ntmps25
  go_wp2_with (first|((with_reducible refine cQ (N:=8) rfl ?_);(try (refine dS (by rfl) ?_;dsimp only));refine cE ?hg (N:=8) ?hd (cs:=#[.string a0,.int .i64 0]) (t:=82) ?hr ?_;(case hd=>rfl);(case hg=>rfl);(case hr=>first|(go_simp;done)|(go_simp;rfl));intro qE hg nj cY hb;have bL:=ah.mk (aC cw hb);have bS:=ah.mk ((⟨cY,dQ⟩:ay w nj qE a0 0));have cG:=ah.mk ((dQ:w.heap.size≤qE));have dA:=ah.mk ((dQ:w.heap.size≤qE));clear HB;have HB:=bL;have mN:=bS;have ZC:=cG;have ZE:=dA;clear bL bS cG dA;clear hb cY hg)|((with_reducible refine aU (f:=80) rfl ?_);refine cB (some 11) rfl rfl Tryz.func80 av rfl #[.pointer (some ⟨qE,0,none⟩)] rfl cX ?_;(with_reducible refine (cg.calls k qE a0 0 t126 false t128 t129 w _ ?aW ?bY A2.out).mono ?_);(case aW=>repeat (first|(with_reducible first|exact mN.out|apply ay.alloc|apply ay.drewN|apply ay.drew|apply ay.fH|apply ay.fD)|exact mN.out));(case bY=>repeat (first|(with_reducible first|exact HB.out|apply aG|apply aM|apply bn|refine bh ?_ (ay.ge mN.out))|exact HB.out));rintro e GK ⟨rfl,hi,hb,hk⟩;refine ⟨_,rfl,?_⟩;have bL:=ah.mk (hb);have bS:=ah.mk (hi);clear HB;clear mN;have HB:=bL;have mN:=bS;clear bL bS;(try clear hb);(try clear hb2);(try clear hk);(try clear hi)))
  go_ret
  exact ⟨cO,EB⟩
end Go.Proofs.YtokpnfljjjjikaaGreatDoor.nK
