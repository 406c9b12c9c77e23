import Derived.Test.YtokpnfljjjjikaaGreatDoorQCbx3
set_option maxHeartbeats 8000000
set_option maxRecDepth 100000
namespace Go.Proofs.YtokpnfljjjjikaaGreatDoor.n9
open Go.RowKit Go.Proofs.aj.bQ Go.Proofs.aj.gf Go.Proofs.aj.cT
attribute [local go_sem] jt iY kQ kJ iJ iK ju jv
set_option linter.unusedVariables false
set_option linter.unusedSimpArgs false
def iR.f (a0:Int):Option (Bool):=(jC.f a0).bind fun t149=>(if t149=true then (some true) else ((jw.f a0).bind fun t150=>(if t150=true then (some true) else ((strings_IndexByte.f (⟨#[33,35,36,37,38,39,42,43,45,47,61,63,94,95,96,123,124,125,126]⟩:ByteArray) a0).bind fun t151=>(some (decide (t151≥0)))))))
theorem iR.calls (a0:Int) (r:Bool) (w:World) (h:iR.f a0=some r):
 Calls Tryz.prog 120 #[.int .u8 a0] w fun e w'=>e= .returned (.bool r)∧kA w w':=by
 have H:((jC.f a0).bind fun t149=>(if t149=true then (some true) else ((jw.f a0).bind fun t150=>(if t150=true then (some true) else ((strings_IndexByte.f (⟨#[33,35,36,37,38,39,42,43,45,47,61,63,94,95,96,123,124,125,126]⟩:ByteArray) a0).bind fun t151=>(some (decide (t151≥0))))))))=some r:=h
 clear h
 replace H:=Option.bind_eq_some_iff.mp H
 obtain ⟨t149,oL,H⟩:=H
 replace H:(if t149=true then (some true) else ((jw.f a0).bind fun t150=>(if t150=true then (some true) else ((strings_IndexByte.f (⟨#[33,35,36,37,38,39,42,43,45,47,61,63,94,95,96,123,124,125,126]⟩:ByteArray) a0).bind fun t151=>(some (decide (t151≥0)))))))=some r:=H
 have A2:=ah.mk oL
 clear oL
 by_cases c3:t149=true
 ·subst c3
  have H1:(some true)=some r:=by rw [if_pos rfl] at H;exact H
  clear H
  have H:=H1
  clear H1
  obtain rfl:=Option.some.inj H
  go_enter Tryz.func120,Tryz.ntmps120
  go_wp2_with (first|((with_reducible refine aT (f:=157) rfl ?_);refine cC (some 4) rfl rfl Tryz.func157 av rfl #[.int .u8 a0] rfl cY ?_;(with_reducible refine (jC.calls a0 true _ A2.out).mono ?_);rintro e w' ⟨rfl,⟨nd,rfl⟩⟩;refine ⟨_,rfl,?_⟩))
  go_ret
  exact ⟨dL,kN⟩
 ·replace c3:=Bool.eq_false_iff.mpr c3
  subst c3
  have H1:((jw.f a0).bind fun t150=>(if t150=true then (some true) else ((strings_IndexByte.f (⟨#[33,35,36,37,38,39,42,43,45,47,61,63,94,95,96,123,124,125,126]⟩:ByteArray) a0).bind fun t151=>(some (decide (t151≥0))))))=some r:=by rw [if_neg (show ¬ (false=true) by decide)] at H;exact H
  clear H
  have H:=H1
  clear H1
  replace H:=Option.bind_eq_some_iff.mp H
  obtain ⟨t150,Ef,H⟩:=H
  replace H:(if t150=true then (some true) else ((strings_IndexByte.f (⟨#[33,35,36,37,38,39,42,43,45,47,61,63,94,95,96,123,124,125,126]⟩:ByteArray) a0).bind fun t151=>(some (decide (t151≥0)))))=some r:=H
  have A4:=ah.mk Ef
  clear Ef
  by_cases c5:t150=true
  ·subst c5
   have H1:(some true)=some r:=by rw [if_pos rfl] at H;exact H
   clear H
   have H:=H1
   clear H1
   obtain rfl:=Option.some.inj H
   go_enter Tryz.func120,Tryz.ntmps120
   go_wp2_with (first|((with_reducible refine aT (f:=157) rfl ?_);refine cC (some 4) rfl rfl Tryz.func157 av rfl #[.int .u8 a0] rfl cY ?_;(with_reducible refine (jC.calls a0 false _ A2.out).mono ?_);rintro e w' ⟨rfl,⟨nd,rfl⟩⟩;refine ⟨_,rfl,?_⟩)|(go_at_call 158;(with_reducible refine (jw.calls a0 true _ A4.out).mono ?_);rintro e w' ⟨rfl,⟨nd,rfl⟩⟩))
   go_ret
   exact ⟨dL,kN⟩
  ·replace c5:=Bool.eq_false_iff.mpr c5
   subst c5
   have H1:((strings_IndexByte.f (⟨#[33,35,36,37,38,39,42,43,45,47,61,63,94,95,96,123,124,125,126]⟩:ByteArray) a0).bind fun t151=>(some (decide (t151≥0))))=some r:=by rw [if_neg (show ¬ (false=true) by decide)] at H;exact H
   clear H
   have H:=H1
   clear H1
   replace H:=Option.bind_eq_some_iff.mp H
   obtain ⟨t151,yF,H⟩:=H
   replace H:(some (decide (t151≥0)))=some r:=H
   have A6:=ah.mk yF
   clear yF
   obtain rfl:=Option.some.inj H
   go_enter Tryz.func120,Tryz.ntmps120
   go_wp2_with (first|((with_reducible refine aT (f:=157) rfl ?_);refine cC (some 4) rfl rfl Tryz.func157 av rfl #[.int .u8 a0] rfl cY ?_;(with_reducible refine (jC.calls a0 false _ A2.out).mono ?_);rintro e w' ⟨rfl,⟨nd,rfl⟩⟩;refine ⟨_,rfl,?_⟩)|(go_at_call 158;(with_reducible refine (jw.calls a0 false _ A4.out).mono ?_);rintro e w' ⟨rfl,⟨nd,rfl⟩⟩)|(go_at_call 159;(with_reducible refine (strings_IndexByte.calls (⟨#[33,35,36,37,38,39,42,43,45,47,61,63,94,95,96,123,124,125,126]⟩:ByteArray) a0 t151 _ A6.out).mono ?_);rintro e w' ⟨rfl,⟨nd,rfl⟩⟩))
   go_ret
   exact ⟨dL,kN⟩
def bA.l0:Nat→Int→ByteArray→Int→Option (ByteArray×Bool×ByteArray×Int)
 | 0,_,_,_ =>none
 |k + 1,x6,iw,fV=>if fV < (iw.size:Int) then (if 0≤fV then ((iR.f (bt iw fV)).bind fun t152=>(if t152=true then (bA.l0 k x6 iw (wrap64 (fV + 1))) else (if 0≤x6 then (if x6≤fV then (if fV≤(iw.size:Int) then (some (iw.extract (x6:Int).toNat (fV:Int).toNat,decide (fV > x6),iw,fV)) else (none)) else (none)) else (none)))) else (none)) else (if 0≤x6 then (if x6≤fV then (if fV≤(iw.size:Int) then (some (iw.extract (x6:Int).toNat (fV:Int).toNat,decide (fV > x6),iw,fV)) else (none)) else (none)) else (none))
def bA.f (k:Nat) (fk:ByteArray) (cR:Int):Option (ByteArray×Bool×ByteArray×Int):=bA.l0 k cR fk cR
theorem bA.fU:∀ k,(∀ y0 y1 y2,cN (bA.l0 k y0 y1 y2) (bA.l0 (k + 1) y0 y1 y2))
 | 0=>fun _ _ _ r h=>by simp [bA.l0] at h
 |k + 1=>by
  have oK:=bA.fU k
  ·intro y0 y1 y2
   unfold bA.l0
   repeat' first
   |(with_reducible exact oK _ _ _)
   |(with_reducible exact cN.refl _)
   |(with_reducible exact cN.none _)
   |(with_reducible refine cN.ite ?_ ?_)
   |(with_reducible refine cN.bind ?_ (fun _ =>?_))
   |refine cN.ite ?_ ?_
   |refine cN.bind ?_ (fun _ =>?_)
theorem bA.mono:∀ a0 a1 k,cN (bA.f k a0 a1) (bA.f (k + 1) a0 a1):=by
 intro a0 a1 k
 have oK:=bA.fU k
 unfold bA.f
 repeat' first
  |(with_reducible exact oK _ _ _)
  |(with_reducible exact cN.refl _)
  |(with_reducible exact cN.none _)
  |(with_reducible refine cN.ite ?_ ?_)
  |(with_reducible refine cN.bind ?_ (fun _ =>?_))
  |refine cN.ite ?_ ?_
  |refine cN.bind ?_ (fun _ =>?_)
theorem bA.calls (k:Nat) (g:Nat) (fk:ByteArray) (cR:Int) (r1:ByteArray) (r2:Bool) (r3:ByteArray) (r4:Int) (w0 w:World) (hI:ay w0 w g fk cR) (hB:Below w0.heap.size w0 w) (h:bA.f k fk cR=some (r1,r2,r3,r4)):
 Calls Tryz.prog 119 #[.pointer (some ⟨g,0,none⟩),.func (.func 120) #[] #[]] w fun e w'=>e= .returned (.tuple #[.string r1,.bool r2])∧ay w0 w' g r3 r4∧Below w0.heap.size w0 w'∧bB w w' g none:=by
 have dH:=ah.mk hI
 have HK:=ah.mk (bB.refl w g none)
 have HL:=ah.mk hB.size
 clear hI
 have VQ:=ah.mk hB.size
 have HB:=ah.mk hB
 clear hB
 have H:(bA.l0 k cR fk cR)=some (r1,r2,r3,r4):=h
 clear h
 have H':=ah.mk H
 clear H
 obtain ⟨ze,WW⟩:=dH.out
 have wh:=dR ze
 have wj:=dM ze
 have wk:=aa ze 0
 have wm:=aa ze 1
 clear ze WW
 go_enter Tryz.func119,Tryz.ntmps119
 go_wp2
 repeat (go_quiet (fail);try go_wp2)
 go_loopg [] k (fun kq w'=>∃ (bD:ByteArray) (aY:Int),ah (bA.l0 kq cR bD aY=some (r1,r2,r3,r4))∧ah (kq≤k)∧ah (ay w0 w' g bD aY)∧ah (bB w w' g none)∧ah (Below w0.heap.size w0 w'))
 case atStart=>exact ⟨(fk),(cR),H',⟨Nat.le_refl _⟩,⟨iC⟩,⟨eK⟩,⟨iB⟩⟩
 case round=>
  clear H'
  try clear c1
  try clear p2
  try clear wh
  try clear wj
  try clear wk
  try clear wm
  obtain ⟨bD,aY,HA,wS,dH,HK,HB⟩:=hrel
  cases gk with
  |zero=>exact absurd HA.out (by simp [bA.l0])
  |succ k1=>
   have H:=HA.out
   clear HA
   simp only [bA.l0] at H
   by_cases c4:aY < (bD.size:Int)
   ·rw [if_pos c4] at H
    have nP:decide (aY < (bD.size:Int))=true:=decide_eq_true c4
    clear c4
    by_cases c5: 0≤aY
    ·rw [if_pos c5] at H
     have vZ:decide (0≤aY)=true:=decide_eq_true c5
     clear c5
     replace H:=Option.bind_eq_some_iff.mp H
     obtain ⟨t152,GV,H⟩:=H
     replace H:(if t152=true then (bA.l0 k1 cR bD (wrap64 (aY + 1))) else (if 0≤cR then (if cR≤aY then (if aY≤(bD.size:Int) then (some (bD.extract (cR:Int).toNat (aY:Int).toNat,decide (aY > cR),bD,aY)) else (none)) else (none)) else (none)))=some (r1,r2,r3,r4):=H
     have A7:=ah.mk GV
     clear GV
     by_cases c8:t152=true
     ·subst c8
      have H1:(bA.l0 k1 cR bD (wrap64 (aY + 1)))=some (r1,r2,r3,r4):=by rw [if_pos rfl] at H;exact H
      clear H
      have H:=H1
      clear H1
      have H':=ah.mk H
      clear H
      obtain ⟨qA,Lq⟩:=dH.out
      have rz:=dR qA
      have rA:=dM qA
      have rB:=aa qA 0
      have rC:=aa qA 1
      clear qA Lq
      have p6: 0≤(aY:Int):=of_decide_eq_true cO
      have q6:aY < (bD.size:Int):=of_decide_eq_true cO
      have hx6:=ig bD aY
      replace p6:=eq_true p6
      replace q6:=eq_true q6
      go_wp2_with (first|(go_at_call 120;(with_reducible refine (iR.calls (bt bD aY) true _ A7.out).mono ?_);rintro e w' ⟨rfl,⟨nd,rfl⟩⟩;(try first|exact ⟨rfl,_,World.drewN_drewN _ _ _⟩|exact ⟨rfl,_,Eq.trans (World.drewN_drewN _ _ _) (congrArg (World.drewN _) (Nat.add_assoc _ _ _))⟩)))
      repeat (go_quiet (first|(go_at_call 120;(with_reducible refine (iR.calls (bt bD aY) true _ A7.out).mono ?_);rintro e w' ⟨rfl,⟨nd,rfl⟩⟩;(try first|exact ⟨rfl,_,World.drewN_drewN _ _ _⟩|exact ⟨rfl,_,Eq.trans (World.drewN_drewN _ _ _) (congrArg (World.drewN _) (Nat.add_assoc _ _ _))⟩)));try go_wp2_with (first|(go_at_call 120;(with_reducible refine (iR.calls (bt bD aY) true _ A7.out).mono ?_);rintro e w' ⟨rfl,⟨nd,rfl⟩⟩;(try first|exact ⟨rfl,_,World.drewN_drewN _ _ _⟩|exact ⟨rfl,_,Eq.trans (World.drewN_drewN _ _ _) (congrArg (World.drewN _) (Nat.add_assoc _ _ _))⟩))))
      go_roundg k1
      case measure=>have:=wS.out;omega
      case rel=>exact ⟨(bD),(wrap64 (aY + 1)),H',⟨ko⟩,⟨iC⟩,⟨eK⟩,⟨iB⟩⟩
     ·replace c8:=Bool.eq_false_iff.mpr c8
      subst c8
      have H1:(if 0≤cR then (if cR≤aY then (if aY≤(bD.size:Int) then (some (bD.extract (cR:Int).toNat (aY:Int).toNat,decide (aY > cR),bD,aY)) else (none)) else (none)) else (none))=some (r1,r2,r3,r4):=by rw [if_neg (show ¬ (false=true) by decide)] at H;exact H
      clear H
      have H:=H1
      clear H1
      by_cases c10: 0≤cR
      ·rw [if_pos c10] at H
       have oX:=eq_true c10
       have yz:decide (0≤cR)=true:=decide_eq_true c10
       clear c10
       by_cases c11:cR≤aY
       ·rw [if_pos c11] at H
        have AY:=eq_true c11
        have Nk:decide (cR≤aY)=true:=decide_eq_true c11
        clear c11
        by_cases c12:aY≤(bD.size:Int)
        ·rw [if_pos c12] at H
         have Eg:=eq_true c12
         have Nl:decide (aY≤(bD.size:Int))=true:=decide_eq_true c12
         clear c12
         simp only [Option.some.injEq,Prod.mk.injEq] at H
         obtain ⟨rfl,rfl,rfl,rfl⟩:=H
         obtain ⟨sB,Nn⟩:=dH.out
         have nJ:=dR sB
         have nK:=dM sB
         have nL:=aa sB 0
         have nM:=aa sB 1
         clear sB Nn
         have p6: 0≤(aY:Int):=of_decide_eq_true cO
         have q6:aY < (bD.size:Int):=of_decide_eq_true cO
         have hx6:=ig bD aY
         replace p6:=eq_true p6
         replace q6:=eq_true q6
         go_wp2_with (first|(go_at_call 120;(with_reducible refine (iR.calls (bt bD aY) false _ A7.out).mono ?_);rintro e w' ⟨rfl,⟨nd,rfl⟩⟩;(try first|exact ⟨rfl,_,World.drewN_drewN _ _ _⟩|exact ⟨rfl,_,Eq.trans (World.drewN_drewN _ _ _) (congrArg (World.drewN _) (Nat.add_assoc _ _ _))⟩)))
         repeat (go_quiet (first|(go_at_call 120;(with_reducible refine (iR.calls (bt bD aY) false _ A7.out).mono ?_);rintro e w' ⟨rfl,⟨nd,rfl⟩⟩;(try first|exact ⟨rfl,_,World.drewN_drewN _ _ _⟩|exact ⟨rfl,_,Eq.trans (World.drewN_drewN _ _ _) (congrArg (World.drewN _) (Nat.add_assoc _ _ _))⟩)));try go_wp2_with (first|(go_at_call 120;(with_reducible refine (iR.calls (bt bD aY) false _ A7.out).mono ?_);rintro e w' ⟨rfl,⟨nd,rfl⟩⟩;(try first|exact ⟨rfl,_,World.drewN_drewN _ _ _⟩|exact ⟨rfl,_,Eq.trans (World.drewN_drewN _ _ _) (congrArg (World.drewN _) (Nat.add_assoc _ _ _))⟩))))
         go_ret2
         exact ⟨cU,iC,iB,eK⟩
        ·rw [if_neg c12] at H
         exact absurd H bf
       ·rw [if_neg c11] at H
        exact absurd H bf
      ·rw [if_neg c10] at H
       exact absurd H bf
    ·rw [if_neg c5] at H
     exact absurd H bf
   ·rw [if_neg c4] at H
    have nP:decide (aY < (bD.size:Int))=false:=decide_eq_false c4
    clear c4
    by_cases c14: 0≤cR
    ·rw [if_pos c14] at H
     have Np:=eq_true c14
     have Nq:decide (0≤cR)=true:=decide_eq_true c14
     clear c14
     by_cases c15:cR≤aY
     ·rw [if_pos c15] at H
      have GW:=eq_true c15
      have S4:decide (cR≤aY)=true:=decide_eq_true c15
      clear c15
      by_cases c16:aY≤(bD.size:Int)
      ·rw [if_pos c16] at H
       have abX:=eq_true c16
       have abY:decide (aY≤(bD.size:Int))=true:=decide_eq_true c16
       clear c16
       simp only [Option.some.injEq,Prod.mk.injEq] at H
       obtain ⟨rfl,rfl,rfl,rfl⟩:=H
       obtain ⟨sD,Nr⟩:=dH.out
       have u9:=dR sD
       have vk:=dM sD
       have vo:=aa sD 0
       have vq:=aa sD 1
       clear sD Nr
       go_wp2
       repeat (go_quiet (fail);try go_wp2)
       go_ret2
       exact ⟨cU,iC,iB,eK⟩
      ·rw [if_neg c16] at H
       exact absurd H bf
     ·rw [if_neg c15] at H
      exact absurd H bf
    ·rw [if_neg c14] at H
     exact absurd H bf
def fR.f (k:Nat) (fk:ByteArray) (cR:Int):Option (Bool×ByteArray×Int):=(bA.f k fk cR).bind fun G1=>(some (G1.2.1,G1.2.2.1,G1.2.2.2))
theorem fR.mono:∀ a0 a1 k,cN (fR.f k a0 a1) (fR.f (k + 1) a0 a1):=by
 intro a0 a1 k
 unfold fR.f
 repeat' first
  |(with_reducible exact bA.mono _ _ _)
  |(with_reducible exact cN.refl _)
  |(with_reducible exact cN.none _)
  |(with_reducible refine cN.ite ?_ ?_)
  |(with_reducible refine cN.bind ?_ (fun _ =>?_))
  |refine cN.ite ?_ ?_
  |refine cN.bind ?_ (fun _ =>?_)
theorem fR.calls (k:Nat) (g:Nat) (fk:ByteArray) (cR:Int) (r1:Bool) (r2:ByteArray) (r3:Int) (w0 w:World) (hI:ay w0 w g fk cR) (hB:Below w0.heap.size w0 w) (h:fR.f k fk cR=some (r1,r2,r3)):
 Calls Tryz.prog 68 #[.pointer (some ⟨g,0,none⟩)] w fun e w'=>e= .returned (.bool r1)∧ay w0 w' g r2 r3∧Below w0.heap.size w0 w'∧bB w w' g none:=by
 have dH:=ah.mk hI
 have HK:=ah.mk (bB.refl w g none)
 have HL:=ah.mk hB.size
 clear hI
 have VQ:=ah.mk hB.size
 have HB:=ah.mk hB
 clear hB
 have H:((bA.f k fk cR).bind fun G1=>(some (G1.2.1,G1.2.2.1,G1.2.2.2)))=some (r1,r2,r3):=h
 clear h
 replace H:=Option.bind_eq_some_iff.mp H
 obtain ⟨⟨t153,t154,t155,t156⟩,oL,H⟩:=H
 replace H:(some (t154,t155,t156))=some (r1,r2,r3):=H
 have A2:=ah.mk oL
 clear oL
 simp only [Option.some.injEq,Prod.mk.injEq] at H
 obtain ⟨rfl,rfl,rfl⟩:=H
 go_enter Tryz.func68,Tryz.ntmps68
 go_wp2_with (first|((with_reducible refine aT (f:=119) rfl ?_);refine cC (some 7) rfl rfl Tryz.func119 av rfl #[.pointer (some ⟨g,0,none⟩),.func (.func 120) #[] #[]] rfl cY ?_;(with_reducible refine (bA.calls k g fk cR t153 t154 t155 t156 w0 _ ?bg ?bY A2.out).mono ?_);(case bg=>repeat (first|(with_reducible first|exact dH.out|apply ay.alloc|apply ay.drewN|apply ay.drew|apply ay.fS|apply ay.fP)|exact dH.out));(case bY=>repeat (first|(with_reducible first|exact HB.out|apply aD|apply aM|apply bq|refine bp ?_ (ay.ge dH.out))|exact HB.out));rintro e w3 ⟨rfl,hi,hb,hk⟩;refine ⟨_,rfl,?_⟩;have bI:=ah.mk (bB.trans eK hk (.inl rfl));have bP:=ah.mk (hb);have cw:=ah.mk (hi);clear HK;clear HB;clear dH;have HK:=bI;have HB:=bP;have dH:=cw;clear bI bP cw;(try clear hb);(try clear hb2);(try clear hk);(try clear hi)))
 go_ret
 exact ⟨cU,iC,iB,eK⟩
def dg.f (fk:ByteArray) (cR:Int):Option (Int×ByteArray×Int):=if cR < (fk.size:Int) then (if 0≤cR then (some (bt fk cR,fk,cR)) else (none)) else (some (0,fk,cR))
theorem dg.calls (g:Nat) (fk:ByteArray) (cR:Int) (r1:Int) (r2:ByteArray) (r3:Int) (w0 w:World) (hI:ay w0 w g fk cR) (hB:Below w0.heap.size w0 w) (h:dg.f fk cR=some (r1,r2,r3)):
 Calls Tryz.prog 115 #[.pointer (some ⟨g,0,none⟩)] w fun e w'=>e= .returned (.int .u8 r1)∧ay w0 w' g r2 r3∧Below w0.heap.size w0 w'∧bB w w' g none:=by
 have dH:=ah.mk hI
 have HK:=ah.mk (bB.refl w g none)
 have HL:=ah.mk hB.size
 clear hI
 have VQ:=ah.mk hB.size
 have HB:=ah.mk hB
 clear hB
 have H:(if cR < (fk.size:Int) then (if 0≤cR then (some (bt fk cR,fk,cR)) else (none)) else (some (0,fk,cR)))=some (r1,r2,r3):=h
 clear h
 by_cases c2:cR < (fk.size:Int)
 ·rw [if_pos c2] at H
  have Dw:decide (cR < (fk.size:Int))=true:=decide_eq_true c2
  clear c2
  by_cases c3: 0≤cR
  ·rw [if_pos c3] at H
   have rD:decide (0≤cR)=true:=decide_eq_true c3
   clear c3
   simp only [Option.some.injEq,Prod.mk.injEq] at H
   obtain ⟨rfl,rfl,rfl⟩:=H
   obtain ⟨W8,aot⟩:=dH.out
   have Ls:=dR W8
   have Lt:=dM W8
   have Lu:=aa W8 0
   have Lv:=aa W8 1
   clear W8 aot
   have p4: 0≤(cR:Int):=of_decide_eq_true cO
   have q4:cR < (fk.size:Int):=of_decide_eq_true cO
   have hx4:=ig fk cR
   replace p4:=eq_true p4
   replace q4:=eq_true q4
   go_enter Tryz.func115,Tryz.ntmps115
   go_wp2
   repeat (go_quiet (fail);try go_wp2)
   go_ret
   exact ⟨cU,iC,iB,eK⟩
  ·rw [if_neg c3] at H
   exact absurd H bf
 ·rw [if_neg c2] at H
  have Dw:decide (cR < (fk.size:Int))=false:=decide_eq_false c2
  clear c2
  simp only [Option.some.injEq,Prod.mk.injEq] at H
  obtain ⟨rfl,rfl,rfl⟩:=H
  obtain ⟨W9,aou⟩:=dH.out
  have Xa:=dR W9
  have Xb:=dM W9
  have Xc:=aa W9 0
  have Xd:=aa W9 1
  clear W9 aou
  go_enter Tryz.func115,Tryz.ntmps115
  go_wp2
  repeat (go_quiet (fail);try go_wp2)
  go_ret
  exact ⟨cU,iC,iB,eK⟩
def aH.l0:Nat→Int→ByteArray→Int→Option (Bool×ByteArray×Int)
 | 0,_,_,_ =>none
 |k + 1,x1,iw,fV=>(fR.f k iw fV).bind fun NA=>(if NA.1=true then ((bu.f NA.2.1 NA.2.2 x1).bind fun sI=>(if sI.1=true then (aH.l0 k x1 sI.2.1 sI.2.2) else (some (true,sI.2.1,sI.2.2)))) else (some (false,NA.2.1,NA.2.2)))
def aH.f (k:Nat) (fk:ByteArray) (cR:Int) (a1:Int):Option (Bool×ByteArray×Int):=aH.l0 k a1 fk cR
theorem aH.fU:∀ k,(∀ y0 y1 y2,cN (aH.l0 k y0 y1 y2) (aH.l0 (k + 1) y0 y1 y2))
 | 0=>fun _ _ _ r h=>by simp [aH.l0] at h
 |k + 1=>by
  have oK:=aH.fU k
  ·intro y0 y1 y2
   unfold aH.l0
   repeat' first
   |(with_reducible exact oK _ _ _)
   |(with_reducible exact fR.mono _ _ _)
   |(with_reducible exact cN.refl _)
   |(with_reducible exact cN.none _)
   |(with_reducible refine cN.ite ?_ ?_)
   |(with_reducible refine cN.bind ?_ (fun _ =>?_))
   |refine cN.ite ?_ ?_
   |refine cN.bind ?_ (fun _ =>?_)
theorem aH.mono:∀ a0 a1 a2 k,cN (aH.f k a0 a1 a2) (aH.f (k + 1) a0 a1 a2):=by
 intro a0 a1 a2 k
 have oK:=aH.fU k
 unfold aH.f
 repeat' first
  |(with_reducible exact oK _ _ _)
  |(with_reducible exact fR.mono _ _ _)
  |(with_reducible exact cN.refl _)
  |(with_reducible exact cN.none _)
  |(with_reducible refine cN.ite ?_ ?_)
  |(with_reducible refine cN.bind ?_ (fun _ =>?_))
  |refine cN.ite ?_ ?_
  |refine cN.bind ?_ (fun _ =>?_)
theorem aH.calls (k:Nat) (g:Nat) (fk:ByteArray) (cR:Int) (a1:Int) (r1:Bool) (r2:ByteArray) (r3:Int) (w0 w:World) (hI:ay w0 w g fk cR) (hB:Below w0.heap.size w0 w) (h:aH.f k fk cR a1=some (r1,r2,r3)):
 Calls Tryz.prog 67 #[.pointer (some ⟨g,0,none⟩),.int .u8 a1,.func (.func 68) #[.pointer (some ⟨g,0,none⟩)] #[]] w fun e w'=>e= .returned (.bool r1)∧ay w0 w' g r2 r3∧Below w0.heap.size w0 w'∧bB w w' g none:=by
 have dH:=ah.mk hI
 have HK:=ah.mk (bB.refl w g none)
 have HL:=ah.mk hB.size
 clear hI
 have VQ:=ah.mk hB.size
 have HB:=ah.mk hB
 clear hB
 have H:(aH.l0 k a1 fk cR)=some (r1,r2,r3):=h
 clear h
 have H':=ah.mk H
 clear H
 go_enter Tryz.func67,Tryz.ntmps67
 go_wp2
 go_loopg [] k (fun kq w'=>∃ (bD:ByteArray) (aY:Int),ah (aH.l0 kq a1 bD aY=some (r1,r2,r3))∧ah (kq≤k)∧ah (ay w0 w' g bD aY)∧ah (bB w w' g none)∧ah (Below w0.heap.size w0 w'))
 case atStart=>exact ⟨(fk),(cR),H',⟨Nat.le_refl _⟩,⟨iC⟩,⟨eK⟩,⟨iB⟩⟩
 case round=>
  clear H'
  try clear p2
  obtain ⟨bD,aY,HA,wS,dH,HK,HB⟩:=hrel
  cases gk with
  |zero=>exact absurd HA.out (by simp [aH.l0])
  |succ k1=>
   have H:=HA.out
   clear HA
   simp only [aH.l0] at H
   replace H:=Option.bind_eq_some_iff.mp H
   obtain ⟨⟨t157,t158,t159⟩,Ef,H⟩:=H
   replace H:(if t157=true then ((bu.f t158 t159 a1).bind fun sI=>(if sI.1=true then (aH.l0 k1 a1 sI.2.1 sI.2.2) else (some (true,sI.2.1,sI.2.2)))) else (some (false,t158,t159)))=some (r1,r2,r3):=H
   have A4:=ah.mk Ef
   clear Ef
   by_cases c5:t157=true
   ·subst c5
    have H1:((bu.f t158 t159 a1).bind fun sI=>(if sI.1=true then (aH.l0 k1 a1 sI.2.1 sI.2.2) else (some (true,sI.2.1,sI.2.2))))=some (r1,r2,r3):=by rw [if_pos rfl] at H;exact H
    clear H
    have H:=H1
    clear H1
    replace H:=Option.bind_eq_some_iff.mp H
    obtain ⟨⟨t160,t161,t162⟩,yF,H⟩:=H
    replace H:(if t160=true then (aH.l0 k1 a1 t161 t162) else (some (true,t161,t162)))=some (r1,r2,r3):=H
    have A6:=ah.mk yF
    clear yF
    by_cases c7:t160=true
    ·subst c7
     have H1:(aH.l0 k1 a1 t161 t162)=some (r1,r2,r3):=by rw [if_pos rfl] at H;exact H
     clear H
     have H:=H1
     clear H1
     have H':=ah.mk H
     clear H
     go_wp2_with (first|(go_at_call 68;(with_reducible refine (fR.calls k1 g bD aY true t158 t159 w0 _ ?bg ?bY A4.out).mono ?_);(case bg=>repeat (first|(with_reducible first|exact dH.out|apply ay.alloc|apply ay.drewN|apply ay.drew|apply ay.fS|apply ay.fP)|exact dH.out));(case bY=>repeat (first|(with_reducible first|exact HB.out|apply aD|apply aM|apply bq|refine bp ?_ (ay.ge dH.out))|exact HB.out));rintro e w8 ⟨rfl,hi,hb,hk⟩;have bI:=ah.mk (bB.trans eK hk (.inl rfl));have bP:=ah.mk (hb);have cw:=ah.mk (hi);clear HK;clear HB;clear dH;have HK:=bI;have HB:=bP;have dH:=cw;clear bI bP cw;(try clear hb);(try clear hb2);(try clear hk);(try clear hi))|((with_reducible refine aT (f:=56) rfl ?_);refine cC (some 11) rfl rfl Tryz.func56 av rfl #[.pointer (some ⟨g,0,none⟩),.int .u8 a1] rfl cY ?_;(with_reducible refine (bu.calls g t158 t159 a1 true t161 t162 w0 _ ?bg ?bY A6.out).mono ?_);(case bg=>repeat (first|(with_reducible first|exact dH.out|apply ay.alloc|apply ay.drewN|apply ay.drew|apply ay.fS|apply ay.fP)|exact dH.out));(case bY=>repeat (first|(with_reducible first|exact HB.out|apply aD|apply aM|apply bq|refine bp ?_ (ay.ge dH.out))|exact HB.out));rintro e w9 ⟨rfl,hi,hb,hk⟩;refine ⟨_,rfl,?_⟩;have bI:=ah.mk (bB.trans eK hk (.inl rfl));have bP:=ah.mk (hb);have cw:=ah.mk (hi);clear HK;clear HB;clear dH;have HK:=bI;have HB:=bP;have dH:=cw;clear bI bP cw;(try clear hb);(try clear hb2);(try clear hk);(try clear hi)))
     go_roundg k1
     case measure=>have:=wS.out;omega
     case rel=>exact ⟨(t161),(t162),H',⟨ko⟩,⟨iC⟩,⟨eK⟩,⟨iB⟩⟩
    ·replace c7:=Bool.eq_false_iff.mpr c7
     subst c7
     have H1:(some (true,t161,t162))=some (r1,r2,r3):=by rw [if_neg (show ¬ (false=true) by decide)] at H;exact H
     clear H
     have H:=H1
     clear H1
     simp only [Option.some.injEq,Prod.mk.injEq] at H
     obtain ⟨rfl,rfl,rfl⟩:=H
     go_wp2_with (first|(go_at_call 68;(with_reducible refine (fR.calls k1 g bD aY true t158 t159 w0 _ ?bg ?bY A4.out).mono ?_);(case bg=>repeat (first|(with_reducible first|exact dH.out|apply ay.alloc|apply ay.drewN|apply ay.drew|apply ay.fS|apply ay.fP)|exact dH.out));(case bY=>repeat (first|(with_reducible first|exact HB.out|apply aD|apply aM|apply bq|refine bp ?_ (ay.ge dH.out))|exact HB.out));rintro e vI ⟨rfl,hi,hb,hk⟩;have bI:=ah.mk (bB.trans eK hk (.inl rfl));have bP:=ah.mk (hb);have cw:=ah.mk (hi);clear HK;clear HB;clear dH;have HK:=bI;have HB:=bP;have dH:=cw;clear bI bP cw;(try clear hb);(try clear hb2);(try clear hk);(try clear hi))|((with_reducible refine aT (f:=56) rfl ?_);refine cC (some 11) rfl rfl Tryz.func56 av rfl #[.pointer (some ⟨g,0,none⟩),.int .u8 a1] rfl cY ?_;(with_reducible refine (bu.calls g t158 t159 a1 false t161 t162 w0 _ ?bg ?bY A6.out).mono ?_);(case bg=>repeat (first|(with_reducible first|exact dH.out|apply ay.alloc|apply ay.drewN|apply ay.drew|apply ay.fS|apply ay.fP)|exact dH.out));(case bY=>repeat (first|(with_reducible first|exact HB.out|apply aD|apply aM|apply bq|refine bp ?_ (ay.ge dH.out))|exact HB.out));rintro e w11 ⟨rfl,hi,hb,hk⟩;refine ⟨_,rfl,?_⟩;have bI:=ah.mk (bB.trans eK hk (.inl rfl));have bP:=ah.mk (hb);have cw:=ah.mk (hi);clear HK;clear HB;clear dH;have HK:=bI;have HB:=bP;have dH:=cw;clear bI bP cw;(try clear hb);(try clear hb2);(try clear hk);(try clear hi)))
     go_ret
     exact ⟨cU,iC,iB,eK⟩
   ·replace c5:=Bool.eq_false_iff.mpr c5
    subst c5
    have H1:(some (false,t158,t159))=some (r1,r2,r3):=by rw [if_neg (show ¬ (false=true) by decide)] at H;exact H
    clear H
    have H:=H1
    clear H1
    simp only [Option.some.injEq,Prod.mk.injEq] at H
    obtain ⟨rfl,rfl,rfl⟩:=H
    go_wp2_with (first|(go_at_call 68;(with_reducible refine (fR.calls k1 g bD aY false t158 t159 w0 _ ?bg ?bY A4.out).mono ?_);(case bg=>repeat (first|(with_reducible first|exact dH.out|apply ay.alloc|apply ay.drewN|apply ay.drew|apply ay.fS|apply ay.fP)|exact dH.out));(case bY=>repeat (first|(with_reducible first|exact HB.out|apply aD|apply aM|apply bq|refine bp ?_ (ay.ge dH.out))|exact HB.out));rintro e IB ⟨rfl,hi,hb,hk⟩;have bI:=ah.mk (bB.trans eK hk (.inl rfl));have bP:=ah.mk (hb);have cw:=ah.mk (hi);clear HK;clear HB;clear dH;have HK:=bI;have HB:=bP;have dH:=cw;clear bI bP cw;(try clear hb);(try clear hb2);(try clear hk);(try clear hi)))
    go_ret
    exact ⟨cU,iC,iB,eK⟩
end Go.Proofs.YtokpnfljjjjikaaGreatDoor.n9
