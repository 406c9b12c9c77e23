import Derived.Test.YtokpnfljjjjikaaGreatDoorZo
import Derived.Test.YtokpnfljjjjikaaGreatDoorQCbx0
import Derived.Test.YtokpnfljjjjikaaGreatDoorQCbx3
import Derived.Test.YtokpnfljjjjikaaGreatDoorEStr
namespace Go.Proofs.YtokpnfljjjjikaaGreatDoor.pJ
open Go.RowKit Go.Proofs.aj.bV Go.Proofs.aj.gq Go.Proofs.aj.dB
attribute [local go_sem] jo jq kM kN iO iP jr jt
set_option linter.unusedVariables false
set_option linter.unusedSimpArgs false
def iW.f (a0:Int):Option (Bool):=(jB.f a0).bind fun t149=>(if t149=true then (some true) else ((ju.f a0).bind fun t150=>(if t150=true then (some true) else ((strings_IndexByte.f (⟨#[33,35,36,37,38,39,42,43,45,47,61,63,94,95,96,123,124,125,126]⟩:ByteArray) a0).bind fun t151=>(some (decide (t151≥0)))))))
set_option maxHeartbeats 8000000 in
set_option maxRecDepth 100000 in
theorem iW.calls (a0:Int) (r:Bool) (w:World) (h:iW.f a0=some r):
 Calls Tryz.prog 120 #[.int .u8 a0] w fun e w'=>e= .returned (.bool r)∧kg w w':=by
 have H:((jB.f a0).bind fun t149=>(if t149=true then (some true) else ((ju.f a0).bind fun t150=>(if t150=true then (some true) else ((strings_IndexByte.f (⟨#[33,35,36,37,38,39,42,43,45,47,61,63,94,95,96,123,124,125,126]⟩:ByteArray) a0).bind fun t151=>(some (decide (t151≥0))))))))=some r:=h
 clear h
 replace H:=Option.bind_eq_some_iff.mp H
 obtain ⟨t149,nU,H⟩:=H
 replace H:(if t149=true then (some true) else ((ju.f a0).bind fun t150=>(if t150=true then (some true) else ((strings_IndexByte.f (⟨#[33,35,36,37,38,39,42,43,45,47,61,63,94,95,96,123,124,125,126]⟩:ByteArray) a0).bind fun t151=>(some (decide (t151≥0)))))))=some r:=H
 have A2:=ah.mk nU
 clear nU
 by_cases c3:t149=true
 ·subst c3
  have H1:(some true)=some r:=by rw [if_pos rfl] at H;exact H
  clear H
  have H:=H1
  clear H1
  obtain rfl:=Option.some.inj H
  go_enter Tryz.func120,Tryz.ntmps120
  go_wp2_with (first|((with_reducible refine aQ (f:=157) rfl ?_);refine cu (some 4) rfl rfl Tryz.func157 av rfl #[.int .u8 a0] rfl cT ?_;(with_reducible refine (jB.calls a0 true _ A2.out).mono ?_);rintro e w' ⟨rfl,⟨nd,rfl⟩⟩;refine ⟨_,rfl,?_⟩))
  go_ret
  exact ⟨ey,kH⟩
 ·replace c3:=Bool.eq_false_iff.mpr c3
  subst c3
  have H1:((ju.f a0).bind fun t150=>(if t150=true then (some true) else ((strings_IndexByte.f (⟨#[33,35,36,37,38,39,42,43,45,47,61,63,94,95,96,123,124,125,126]⟩:ByteArray) a0).bind fun t151=>(some (decide (t151≥0))))))=some r:=by rw [if_neg (show ¬ (false=true) by decide)] at H;exact H
  clear H
  have H:=H1
  clear H1
  replace H:=Option.bind_eq_some_iff.mp H
  obtain ⟨t150,Bg,H⟩:=H
  replace H:(if t150=true then (some true) else ((strings_IndexByte.f (⟨#[33,35,36,37,38,39,42,43,45,47,61,63,94,95,96,123,124,125,126]⟩:ByteArray) a0).bind fun t151=>(some (decide (t151≥0)))))=some r:=H
  have A4:=ah.mk Bg
  clear Bg
  by_cases c5:t150=true
  ·subst c5
   have H1:(some true)=some r:=by rw [if_pos rfl] at H;exact H
   clear H
   have H:=H1
   clear H1
   obtain rfl:=Option.some.inj H
   go_enter Tryz.func120,Tryz.ntmps120
   go_wp2_with (first|((with_reducible refine aQ (f:=157) rfl ?_);refine cu (some 4) rfl rfl Tryz.func157 av rfl #[.int .u8 a0] rfl cT ?_;(with_reducible refine (jB.calls a0 false _ A2.out).mono ?_);rintro e w' ⟨rfl,⟨nd,rfl⟩⟩;refine ⟨_,rfl,?_⟩)|(go_at_call 158;(with_reducible refine (ju.calls a0 true _ A4.out).mono ?_);rintro e w' ⟨rfl,⟨nd,rfl⟩⟩))
   go_ret
   exact ⟨ey,kH⟩
  ·replace c5:=Bool.eq_false_iff.mpr c5
   subst c5
   have H1:((strings_IndexByte.f (⟨#[33,35,36,37,38,39,42,43,45,47,61,63,94,95,96,123,124,125,126]⟩:ByteArray) a0).bind fun t151=>(some (decide (t151≥0))))=some r:=by rw [if_neg (show ¬ (false=true) by decide)] at H;exact H
   clear H
   have H:=H1
   clear H1
   replace H:=Option.bind_eq_some_iff.mp H
   obtain ⟨t151,xw,H⟩:=H
   replace H:(some (decide (t151≥0)))=some r:=H
   have A6:=ah.mk xw
   clear xw
   obtain rfl:=Option.some.inj H
   go_enter Tryz.func120,Tryz.ntmps120
   go_wp2_with (first|((with_reducible refine aQ (f:=157) rfl ?_);refine cu (some 4) rfl rfl Tryz.func157 av rfl #[.int .u8 a0] rfl cT ?_;(with_reducible refine (jB.calls a0 false _ A2.out).mono ?_);rintro e w' ⟨rfl,⟨nd,rfl⟩⟩;refine ⟨_,rfl,?_⟩)|(go_at_call 158;(with_reducible refine (ju.calls a0 false _ A4.out).mono ?_);rintro e w' ⟨rfl,⟨nd,rfl⟩⟩)|(go_at_call 159;(with_reducible refine (strings_IndexByte.calls (⟨#[33,35,36,37,38,39,42,43,45,47,61,63,94,95,96,123,124,125,126]⟩:ByteArray) a0 t151 _ A6.out).mono ?_);rintro e w' ⟨rfl,⟨nd,rfl⟩⟩))
   go_ret
   exact ⟨ey,kH⟩
def bA.l0:Nat→Int→ByteArray→Int→Option (ByteArray×Bool×ByteArray×Int)
 | 0,_,_,_ =>none
 |k + 1,x6,iB,gi=>if gi < (iB.size:Int) then (if 0≤gi then ((iW.f (bt iB gi)).bind fun t152=>(if t152=true then (bA.l0 k x6 iB (wrap64 (gi + 1))) else (if 0≤x6 then (if x6≤gi then (if gi≤(iB.size:Int) then (some (iB.extract (x6:Int).toNat (gi:Int).toNat,decide (gi > x6),iB,gi)) else (none)) else (none)) else (none)))) else (none)) else (if 0≤x6 then (if x6≤gi then (if gi≤(iB.size:Int) then (some (iB.extract (x6:Int).toNat (gi:Int).toNat,decide (gi > x6),iB,gi)) else (none)) else (none)) else (none))
def bA.f (k:Nat) (fD:ByteArray) (cS:Int):Option (ByteArray×Bool×ByteArray×Int):=bA.l0 k cS fD cS
theorem bA.gf:∀ k,(∀ y0 y1 y2,cN (bA.l0 k y0 y1 y2) (bA.l0 (k + 1) y0 y1 y2))
 | 0=>fun _ _ _ r h=>by simp [bA.l0] at h
 |k + 1=>by
  have oo:=bA.gf k
  ·intro y0 y1 y2
   unfold bA.l0
   repeat' first
   |(with_reducible exact oo _ _ _)
   |(with_reducible exact cN.refl _)
   |(with_reducible exact cN.none _)
   |(with_reducible refine cN.ite ?_ ?_)
   |(with_reducible refine cN.bind ?_ (fun _ =>?_))
   |refine cN.ite ?_ ?_
   |refine cN.bind ?_ (fun _ =>?_)
theorem bA.mono:∀ a0 a1 k,cN (bA.f k a0 a1) (bA.f (k + 1) a0 a1):=by
 intro a0 a1 k
 have oo:=bA.gf k
 unfold bA.f
 repeat' first
  |(with_reducible exact oo _ _ _)
  |(with_reducible exact cN.refl _)
  |(with_reducible exact cN.none _)
  |(with_reducible refine cN.ite ?_ ?_)
  |(with_reducible refine cN.bind ?_ (fun _ =>?_))
  |refine cN.ite ?_ ?_
  |refine cN.bind ?_ (fun _ =>?_)
set_option maxHeartbeats 8000000 in
set_option maxRecDepth 100000 in
theorem bA.calls (k:Nat) (g:Nat) (fD:ByteArray) (cS:Int) (r1:ByteArray) (r2:Bool) (r3:ByteArray) (r4:Int) (w0 w:World) (hI:aA w0 w g fD cS) (hB:Below w0.heap.size w0 w) (h:bA.f k fD cS=some (r1,r2,r3,r4)):
 Calls Tryz.prog 119 #[.pointer (some ⟨g,0,none⟩),.func (.func 120) #[] #[]] w fun e w'=>e= .returned (.tuple #[.string r1,.bool r2])∧aA w0 w' g r3 r4∧Below w0.heap.size w0 w'∧bC w w' g none:=by
 have dI:=ah.mk hI
 have HK:=ah.mk (bC.refl w g none)
 have HL:=ah.mk hB.size
 clear hI
 have T9:=ah.mk hB.size
 have HB:=ah.mk hB
 clear hB
 have H:(bA.l0 k cS fD cS)=some (r1,r2,r3,r4):=h
 clear h
 have H':=ah.mk H
 clear H
 obtain ⟨xx,Vs⟩:=dI.out
 have uC:=dV xx
 have uD:=dM xx
 have uE:=aa xx 0
 have uF:=aa xx 1
 clear xx Vs
 go_enter Tryz.func119,Tryz.ntmps119
 go_wp2
 repeat (go_quiet (fail);try go_wp2)
 go_loopg [] k (fun kq w'=>∃ (bE:ByteArray) (aZ:Int),ah (bA.l0 kq cS bE aZ=some (r1,r2,r3,r4))∧ah (kq≤k)∧ah (aA w0 w' g bE aZ)∧ah (bC w w' g none)∧ah (Below w0.heap.size w0 w'))
 case atStart=>exact ⟨(fD),(cS),H',⟨Nat.le_refl _⟩,⟨iG⟩,⟨eP⟩,⟨iF⟩⟩
 case round=>
  clear H'
  try clear c1
  try clear p2
  try clear uC
  try clear uD
  try clear uE
  try clear uF
  obtain ⟨bE,aZ,HA,uX,dI,HK,HB⟩:=hrel
  cases gk with
  |zero=>exact absurd HA.out (by simp [bA.l0])
  |succ k1=>
   have H:=HA.out
   clear HA
   simp only [bA.l0] at H
   by_cases c4:aZ < (bE.size:Int)
   ·rw [if_pos c4] at H
    have o9:decide (aZ < (bE.size:Int))=true:=decide_eq_true c4
    clear c4
    by_cases c5: 0≤aZ
    ·rw [if_pos c5] at H
     have uB:decide (0≤aZ)=true:=decide_eq_true c5
     clear c5
     replace H:=Option.bind_eq_some_iff.mp H
     obtain ⟨t152,Hg,H⟩:=H
     replace H:(if t152=true then (bA.l0 k1 cS bE (wrap64 (aZ + 1))) else (if 0≤cS then (if cS≤aZ then (if aZ≤(bE.size:Int) then (some (bE.extract (cS:Int).toNat (aZ:Int).toNat,decide (aZ > cS),bE,aZ)) else (none)) else (none)) else (none)))=some (r1,r2,r3,r4):=H
     have A7:=ah.mk Hg
     clear Hg
     by_cases c8:t152=true
     ·subst c8
      have H1:(bA.l0 k1 cS bE (wrap64 (aZ + 1)))=some (r1,r2,r3,r4):=by rw [if_pos rfl] at H;exact H
      clear H
      have H:=H1
      clear H1
      have H':=ah.mk H
      clear H
      obtain ⟨pY,J1⟩:=dI.out
      have qF:=dV pY
      have qG:=dM pY
      have qH:=aa pY 0
      have qI:=aa pY 1
      clear pY J1
      have p6: 0≤(aZ:Int):=of_decide_eq_true cW
      have q6:aZ < (bE.size:Int):=of_decide_eq_true cW
      have hx6:=iw bE aZ
      replace p6:=eq_true p6
      replace q6:=eq_true q6
      go_wp2_with (first|(go_at_call 120;(with_reducible refine (iW.calls (bt bE aZ) true _ A7.out).mono ?_);rintro e w' ⟨rfl,⟨nd,rfl⟩⟩;(try first|exact ⟨rfl,_,World.drewN_drewN _ _ _⟩|exact ⟨rfl,_,Eq.trans (World.drewN_drewN _ _ _) (congrArg (World.drewN _) (Nat.add_assoc _ _ _))⟩)))
      repeat (go_quiet (first|(go_at_call 120;(with_reducible refine (iW.calls (bt bE aZ) true _ A7.out).mono ?_);rintro e w' ⟨rfl,⟨nd,rfl⟩⟩;(try first|exact ⟨rfl,_,World.drewN_drewN _ _ _⟩|exact ⟨rfl,_,Eq.trans (World.drewN_drewN _ _ _) (congrArg (World.drewN _) (Nat.add_assoc _ _ _))⟩)));try go_wp2_with (first|(go_at_call 120;(with_reducible refine (iW.calls (bt bE aZ) true _ A7.out).mono ?_);rintro e w' ⟨rfl,⟨nd,rfl⟩⟩;(try first|exact ⟨rfl,_,World.drewN_drewN _ _ _⟩|exact ⟨rfl,_,Eq.trans (World.drewN_drewN _ _ _) (congrArg (World.drewN _) (Nat.add_assoc _ _ _))⟩))))
      go_roundg k1
      case measure=>have:=uX.out;omega
      case rel=>exact ⟨(bE),(wrap64 (aZ + 1)),H',⟨j6⟩,⟨iG⟩,⟨eP⟩,⟨iF⟩⟩
     ·replace c8:=Bool.eq_false_iff.mpr c8
      subst c8
      have H1:(if 0≤cS then (if cS≤aZ then (if aZ≤(bE.size:Int) then (some (bE.extract (cS:Int).toNat (aZ:Int).toNat,decide (aZ > cS),bE,aZ)) else (none)) else (none)) else (none))=some (r1,r2,r3,r4):=by rw [if_neg (show ¬ (false=true) by decide)] at H;exact H
      clear H
      have H:=H1
      clear H1
      by_cases c10: 0≤cS
      ·rw [if_pos c10] at H
       have pV:=eq_true c10
       have zm:decide (0≤cS)=true:=decide_eq_true c10
       clear c10
       by_cases c11:cS≤aZ
       ·rw [if_pos c11] at H
        have zn:=eq_true c11
        have L5:decide (cS≤aZ)=true:=decide_eq_true c11
        clear c11
        by_cases c12:aZ≤(bE.size:Int)
        ·rw [if_pos c12] at H
         have CN:=eq_true c12
         have L6:decide (aZ≤(bE.size:Int))=true:=decide_eq_true c12
         clear c12
         simp only [Option.some.injEq,Prod.mk.injEq] at H
         obtain ⟨rfl,rfl,rfl,rfl⟩:=H
         obtain ⟨qY,L8⟩:=dI.out
         have qN:=dV qY
         have qO:=dM qY
         have qP:=aa qY 0
         have qQ:=aa qY 1
         clear qY L8
         have p6: 0≤(aZ:Int):=of_decide_eq_true cW
         have q6:aZ < (bE.size:Int):=of_decide_eq_true cW
         have hx6:=iw bE aZ
         replace p6:=eq_true p6
         replace q6:=eq_true q6
         go_wp2_with (first|(go_at_call 120;(with_reducible refine (iW.calls (bt bE aZ) false _ A7.out).mono ?_);rintro e w' ⟨rfl,⟨nd,rfl⟩⟩;(try first|exact ⟨rfl,_,World.drewN_drewN _ _ _⟩|exact ⟨rfl,_,Eq.trans (World.drewN_drewN _ _ _) (congrArg (World.drewN _) (Nat.add_assoc _ _ _))⟩)))
         repeat (go_quiet (first|(go_at_call 120;(with_reducible refine (iW.calls (bt bE aZ) false _ A7.out).mono ?_);rintro e w' ⟨rfl,⟨nd,rfl⟩⟩;(try first|exact ⟨rfl,_,World.drewN_drewN _ _ _⟩|exact ⟨rfl,_,Eq.trans (World.drewN_drewN _ _ _) (congrArg (World.drewN _) (Nat.add_assoc _ _ _))⟩)));try go_wp2_with (first|(go_at_call 120;(with_reducible refine (iW.calls (bt bE aZ) false _ A7.out).mono ?_);rintro e w' ⟨rfl,⟨nd,rfl⟩⟩;(try first|exact ⟨rfl,_,World.drewN_drewN _ _ _⟩|exact ⟨rfl,_,Eq.trans (World.drewN_drewN _ _ _) (congrArg (World.drewN _) (Nat.add_assoc _ _ _))⟩))))
         go_ret2
         exact ⟨cR,iG,iF,eP⟩
        ·rw [if_neg c12] at H
         exact absurd H bn
       ·rw [if_neg c11] at H
        exact absurd H bn
      ·rw [if_neg c10] at H
       exact absurd H bn
    ·rw [if_neg c5] at H
     exact absurd H bn
   ·rw [if_neg c4] at H
    have o9:decide (aZ < (bE.size:Int))=false:=decide_eq_false c4
    clear c4
    by_cases c14: 0≤cS
    ·rw [if_pos c14] at H
     have L9:=eq_true c14
     have Ma:decide (0≤cS)=true:=decide_eq_true c14
     clear c14
     by_cases c15:cS≤aZ
     ·rw [if_pos c15] at H
      have FD:=eq_true c15
      have Ru:decide (cS≤aZ)=true:=decide_eq_true c15
      clear c15
      by_cases c16:aZ≤(bE.size:Int)
      ·rw [if_pos c16] at H
       have aam:=eq_true c16
       have aan:decide (aZ≤(bE.size:Int))=true:=decide_eq_true c16
       clear c16
       simp only [Option.some.injEq,Prod.mk.injEq] at H
       obtain ⟨rfl,rfl,rfl,rfl⟩:=H
       obtain ⟨qZ,Mb⟩:=dI.out
       have tW:=dV qZ
       have tX:=dM qZ
       have tY:=aa qZ 0
       have tZ:=aa qZ 1
       clear qZ Mb
       go_wp2
       repeat (go_quiet (fail);try go_wp2)
       go_ret2
       exact ⟨cR,iG,iF,eP⟩
      ·rw [if_neg c16] at H
       exact absurd H bn
     ·rw [if_neg c15] at H
      exact absurd H bn
    ·rw [if_neg c14] at H
     exact absurd H bn
def fX.f (k:Nat) (fD:ByteArray) (cS:Int):Option (Bool×ByteArray×Int):=(bA.f k fD cS).bind fun FL=>(some (FL.2.1,FL.2.2.1,FL.2.2.2))
theorem fX.mono:∀ a0 a1 k,cN (fX.f k a0 a1) (fX.f (k + 1) a0 a1):=by
 intro a0 a1 k
 unfold fX.f
 repeat' first
  |(with_reducible exact bA.mono _ _ _)
  |(with_reducible exact cN.refl _)
  |(with_reducible exact cN.none _)
  |(with_reducible refine cN.ite ?_ ?_)
  |(with_reducible refine cN.bind ?_ (fun _ =>?_))
  |refine cN.ite ?_ ?_
  |refine cN.bind ?_ (fun _ =>?_)
set_option maxHeartbeats 8000000 in
set_option maxRecDepth 100000 in
theorem fX.calls (k:Nat) (g:Nat) (fD:ByteArray) (cS:Int) (r1:Bool) (r2:ByteArray) (r3:Int) (w0 w:World) (hI:aA w0 w g fD cS) (hB:Below w0.heap.size w0 w) (h:fX.f k fD cS=some (r1,r2,r3)):
 Calls Tryz.prog 68 #[.pointer (some ⟨g,0,none⟩)] w fun e w'=>e= .returned (.bool r1)∧aA w0 w' g r2 r3∧Below w0.heap.size w0 w'∧bC w w' g none:=by
 have dI:=ah.mk hI
 have HK:=ah.mk (bC.refl w g none)
 have HL:=ah.mk hB.size
 clear hI
 have T9:=ah.mk hB.size
 have HB:=ah.mk hB
 clear hB
 have H:((bA.f k fD cS).bind fun FL=>(some (FL.2.1,FL.2.2.1,FL.2.2.2)))=some (r1,r2,r3):=h
 clear h
 replace H:=Option.bind_eq_some_iff.mp H
 obtain ⟨⟨t153,t154,t155,t156⟩,nU,H⟩:=H
 replace H:(some (t154,t155,t156))=some (r1,r2,r3):=H
 have A2:=ah.mk nU
 clear nU
 simp only [Option.some.injEq,Prod.mk.injEq] at H
 obtain ⟨rfl,rfl,rfl⟩:=H
 go_enter Tryz.func68,Tryz.ntmps68
 go_wp2_with (first|((with_reducible refine aQ (f:=119) rfl ?_);refine cu (some 7) rfl rfl Tryz.func119 av rfl #[.pointer (some ⟨g,0,none⟩),.func (.func 120) #[] #[]] rfl cT ?_;(with_reducible refine (bA.calls k g fD cS t153 t154 t155 t156 w0 _ ?aX ?bT A2.out).mono ?_);(case aX=>repeat (first|(with_reducible first|exact dI.out|apply aA.alloc|apply aA.drewN|apply aA.drew|apply aA.fZ|apply aA.fV)|exact dI.out));(case bT=>repeat (first|(with_reducible first|exact HB.out|apply aB|apply aC|apply br|refine bh ?_ (aA.ge dI.out))|exact HB.out));rintro e w3 ⟨rfl,hi,hb,hk⟩;refine ⟨_,rfl,?_⟩;have bB:=ah.mk (bC.trans eP hk (.inl rfl));have bL:=ah.mk (hb);have bY:=ah.mk (hi);clear HK;clear HB;clear dI;have HK:=bB;have HB:=bL;have dI:=bY;clear bB bL bY;(try clear hb);(try clear hb2);(try clear hk);(try clear hi)))
 go_ret
 exact ⟨cR,iG,iF,eP⟩
def dh.f (fD:ByteArray) (cS:Int):Option (Int×ByteArray×Int):=if cS < (fD.size:Int) then (if 0≤cS then (some (bt fD cS,fD,cS)) else (none)) else (some (0,fD,cS))
set_option maxHeartbeats 8000000 in
set_option maxRecDepth 100000 in
theorem dh.calls (g:Nat) (fD:ByteArray) (cS:Int) (r1:Int) (r2:ByteArray) (r3:Int) (w0 w:World) (hI:aA w0 w g fD cS) (hB:Below w0.heap.size w0 w) (h:dh.f fD cS=some (r1,r2,r3)):
 Calls Tryz.prog 115 #[.pointer (some ⟨g,0,none⟩)] w fun e w'=>e= .returned (.int .u8 r1)∧aA w0 w' g r2 r3∧Below w0.heap.size w0 w'∧bC w w' g none:=by
 have dI:=ah.mk hI
 have HK:=ah.mk (bC.refl w g none)
 have HL:=ah.mk hB.size
 clear hI
 have T9:=ah.mk hB.size
 have HB:=ah.mk hB
 clear hB
 have H:(if cS < (fD.size:Int) then (if 0≤cS then (some (bt fD cS,fD,cS)) else (none)) else (some (0,fD,cS)))=some (r1,r2,r3):=h
 clear h
 by_cases c2:cS < (fD.size:Int)
 ·rw [if_pos c2] at H
  have B6:decide (cS < (fD.size:Int))=true:=decide_eq_true c2
  clear c2
  by_cases c3: 0≤cS
  ·rw [if_pos c3] at H
   have pX:decide (0≤cS)=true:=decide_eq_true c3
   clear c3
   simp only [Option.some.injEq,Prod.mk.injEq] at H
   obtain ⟨rfl,rfl,rfl⟩:=H
   obtain ⟨Vz,amD⟩:=dI.out
   have J4:=dV Vz
   have J5:=dM Vz
   have J6:=aa Vz 0
   have J7:=aa Vz 1
   clear Vz amD
   have p4: 0≤(cS:Int):=of_decide_eq_true cW
   have q4:cS < (fD.size:Int):=of_decide_eq_true cW
   have hx4:=iw fD cS
   replace p4:=eq_true p4
   replace q4:=eq_true q4
   go_enter Tryz.func115,Tryz.ntmps115
   go_wp2
   repeat (go_quiet (fail);try go_wp2)
   go_ret
   exact ⟨cR,iG,iF,eP⟩
  ·rw [if_neg c3] at H
   exact absurd H bn
 ·rw [if_neg c2] at H
  have B6:decide (cS < (fD.size:Int))=false:=decide_eq_false c2
  clear c2
  simp only [Option.some.injEq,Prod.mk.injEq] at H
  obtain ⟨rfl,rfl,rfl⟩:=H
  obtain ⟨VA,amE⟩:=dI.out
  have VB:=dV VA
  have VC:=dM VA
  have VD:=aa VA 0
  have VE:=aa VA 1
  clear VA amE
  go_enter Tryz.func115,Tryz.ntmps115
  go_wp2
  repeat (go_quiet (fail);try go_wp2)
  go_ret
  exact ⟨cR,iG,iF,eP⟩
def aK.l0:Nat→Int→ByteArray→Int→Option (Bool×ByteArray×Int)
 | 0,_,_,_ =>none
 |k + 1,x1,iB,gi=>(fX.f k iB gi).bind fun Mh=>(if Mh.1=true then ((bq.f Mh.2.1 Mh.2.2 x1).bind fun ry=>(if ry.1=true then (aK.l0 k x1 ry.2.1 ry.2.2) else (some (true,ry.2.1,ry.2.2)))) else (some (false,Mh.2.1,Mh.2.2)))
def aK.f (k:Nat) (fD:ByteArray) (cS:Int) (a1:Int):Option (Bool×ByteArray×Int):=aK.l0 k a1 fD cS
theorem aK.gf:∀ k,(∀ y0 y1 y2,cN (aK.l0 k y0 y1 y2) (aK.l0 (k + 1) y0 y1 y2))
 | 0=>fun _ _ _ r h=>by simp [aK.l0] at h
 |k + 1=>by
  have oo:=aK.gf k
  ·intro y0 y1 y2
   unfold aK.l0
   repeat' first
   |(with_reducible exact oo _ _ _)
   |(with_reducible exact fX.mono _ _ _)
   |(with_reducible exact cN.refl _)
   |(with_reducible exact cN.none _)
   |(with_reducible refine cN.ite ?_ ?_)
   |(with_reducible refine cN.bind ?_ (fun _ =>?_))
   |refine cN.ite ?_ ?_
   |refine cN.bind ?_ (fun _ =>?_)
theorem aK.mono:∀ a0 a1 a2 k,cN (aK.f k a0 a1 a2) (aK.f (k + 1) a0 a1 a2):=by
 intro a0 a1 a2 k
 have oo:=aK.gf k
 unfold aK.f
 repeat' first
  |(with_reducible exact oo _ _ _)
  |(with_reducible exact fX.mono _ _ _)
  |(with_reducible exact cN.refl _)
  |(with_reducible exact cN.none _)
  |(with_reducible refine cN.ite ?_ ?_)
  |(with_reducible refine cN.bind ?_ (fun _ =>?_))
  |refine cN.ite ?_ ?_
  |refine cN.bind ?_ (fun _ =>?_)
set_option maxHeartbeats 8000000 in
set_option maxRecDepth 100000 in
theorem aK.calls (k:Nat) (g:Nat) (fD:ByteArray) (cS:Int) (a1:Int) (r1:Bool) (r2:ByteArray) (r3:Int) (w0 w:World) (hI:aA w0 w g fD cS) (hB:Below w0.heap.size w0 w) (h:aK.f k fD cS a1=some (r1,r2,r3)):
 Calls Tryz.prog 67 #[.pointer (some ⟨g,0,none⟩),.int .u8 a1,.func (.func 68) #[.pointer (some ⟨g,0,none⟩)] #[]] w fun e w'=>e= .returned (.bool r1)∧aA w0 w' g r2 r3∧Below w0.heap.size w0 w'∧bC w w' g none:=by
 have dI:=ah.mk hI
 have HK:=ah.mk (bC.refl w g none)
 have HL:=ah.mk hB.size
 clear hI
 have T9:=ah.mk hB.size
 have HB:=ah.mk hB
 clear hB
 have H:(aK.l0 k a1 fD cS)=some (r1,r2,r3):=h
 clear h
 have H':=ah.mk H
 clear H
 go_enter Tryz.func67,Tryz.ntmps67
 go_wp2
 go_loopg [] k (fun kq w'=>∃ (bE:ByteArray) (aZ:Int),ah (aK.l0 kq a1 bE aZ=some (r1,r2,r3))∧ah (kq≤k)∧ah (aA w0 w' g bE aZ)∧ah (bC w w' g none)∧ah (Below w0.heap.size w0 w'))
 case atStart=>exact ⟨(fD),(cS),H',⟨Nat.le_refl _⟩,⟨iG⟩,⟨eP⟩,⟨iF⟩⟩
 case round=>
  clear H'
  try clear p2
  obtain ⟨bE,aZ,HA,uX,dI,HK,HB⟩:=hrel
  cases gk with
  |zero=>exact absurd HA.out (by simp [aK.l0])
  |succ k1=>
   have H:=HA.out
   clear HA
   simp only [aK.l0] at H
   replace H:=Option.bind_eq_some_iff.mp H
   obtain ⟨⟨t157,t158,t159⟩,Bg,H⟩:=H
   replace H:(if t157=true then ((bq.f t158 t159 a1).bind fun ry=>(if ry.1=true then (aK.l0 k1 a1 ry.2.1 ry.2.2) else (some (true,ry.2.1,ry.2.2)))) else (some (false,t158,t159)))=some (r1,r2,r3):=H
   have A4:=ah.mk Bg
   clear Bg
   by_cases c5:t157=true
   ·subst c5
    have H1:((bq.f t158 t159 a1).bind fun ry=>(if ry.1=true then (aK.l0 k1 a1 ry.2.1 ry.2.2) else (some (true,ry.2.1,ry.2.2))))=some (r1,r2,r3):=by rw [if_pos rfl] at H;exact H
    clear H
    have H:=H1
    clear H1
    replace H:=Option.bind_eq_some_iff.mp H
    obtain ⟨⟨t160,t161,t162⟩,xw,H⟩:=H
    replace H:(if t160=true then (aK.l0 k1 a1 t161 t162) else (some (true,t161,t162)))=some (r1,r2,r3):=H
    have A6:=ah.mk xw
    clear xw
    by_cases c7:t160=true
    ·subst c7
     have H1:(aK.l0 k1 a1 t161 t162)=some (r1,r2,r3):=by rw [if_pos rfl] at H;exact H
     clear H
     have H:=H1
     clear H1
     have H':=ah.mk H
     clear H
     go_wp2_with (first|(go_at_call 68;(with_reducible refine (fX.calls k1 g bE aZ true t158 t159 w0 _ ?aX ?bT A4.out).mono ?_);(case aX=>repeat (first|(with_reducible first|exact dI.out|apply aA.alloc|apply aA.drewN|apply aA.drew|apply aA.fZ|apply aA.fV)|exact dI.out));(case bT=>repeat (first|(with_reducible first|exact HB.out|apply aB|apply aC|apply br|refine bh ?_ (aA.ge dI.out))|exact HB.out));rintro e w8 ⟨rfl,hi,hb,hk⟩;have bB:=ah.mk (bC.trans eP hk (.inl rfl));have bL:=ah.mk (hb);have bY:=ah.mk (hi);clear HK;clear HB;clear dI;have HK:=bB;have HB:=bL;have dI:=bY;clear bB bL bY;(try clear hb);(try clear hb2);(try clear hk);(try clear hi))|((with_reducible refine aQ (f:=56) rfl ?_);refine cu (some 11) rfl rfl Tryz.func56 av rfl #[.pointer (some ⟨g,0,none⟩),.int .u8 a1] rfl cT ?_;(with_reducible refine (bq.calls g t158 t159 a1 true t161 t162 w0 _ ?aX ?bT A6.out).mono ?_);(case aX=>repeat (first|(with_reducible first|exact dI.out|apply aA.alloc|apply aA.drewN|apply aA.drew|apply aA.fZ|apply aA.fV)|exact dI.out));(case bT=>repeat (first|(with_reducible first|exact HB.out|apply aB|apply aC|apply br|refine bh ?_ (aA.ge dI.out))|exact HB.out));rintro e w9 ⟨rfl,hi,hb,hk⟩;refine ⟨_,rfl,?_⟩;have bB:=ah.mk (bC.trans eP hk (.inl rfl));have bL:=ah.mk (hb);have bY:=ah.mk (hi);clear HK;clear HB;clear dI;have HK:=bB;have HB:=bL;have dI:=bY;clear bB bL bY;(try clear hb);(try clear hb2);(try clear hk);(try clear hi)))
     go_roundg k1
     case measure=>have:=uX.out;omega
     case rel=>exact ⟨(t161),(t162),H',⟨j6⟩,⟨iG⟩,⟨eP⟩,⟨iF⟩⟩
    ·replace c7:=Bool.eq_false_iff.mpr c7
     subst c7
     have H1:(some (true,t161,t162))=some (r1,r2,r3):=by rw [if_neg (show ¬ (false=true) by decide)] at H;exact H
     clear H
     have H:=H1
     clear H1
     simp only [Option.some.injEq,Prod.mk.injEq] at H
     obtain ⟨rfl,rfl,rfl⟩:=H
     go_wp2_with (first|(go_at_call 68;(with_reducible refine (fX.calls k1 g bE aZ true t158 t159 w0 _ ?aX ?bT A4.out).mono ?_);(case aX=>repeat (first|(with_reducible first|exact dI.out|apply aA.alloc|apply aA.drewN|apply aA.drew|apply aA.fZ|apply aA.fV)|exact dI.out));(case bT=>repeat (first|(with_reducible first|exact HB.out|apply aB|apply aC|apply br|refine bh ?_ (aA.ge dI.out))|exact HB.out));rintro e uk ⟨rfl,hi,hb,hk⟩;have bB:=ah.mk (bC.trans eP hk (.inl rfl));have bL:=ah.mk (hb);have bY:=ah.mk (hi);clear HK;clear HB;clear dI;have HK:=bB;have HB:=bL;have dI:=bY;clear bB bL bY;(try clear hb);(try clear hb2);(try clear hk);(try clear hi))|((with_reducible refine aQ (f:=56) rfl ?_);refine cu (some 11) rfl rfl Tryz.func56 av rfl #[.pointer (some ⟨g,0,none⟩),.int .u8 a1] rfl cT ?_;(with_reducible refine (bq.calls g t158 t159 a1 false t161 t162 w0 _ ?aX ?bT A6.out).mono ?_);(case aX=>repeat (first|(with_reducible first|exact dI.out|apply aA.alloc|apply aA.drewN|apply aA.drew|apply aA.fZ|apply aA.fV)|exact dI.out));(case bT=>repeat (first|(with_reducible first|exact HB.out|apply aB|apply aC|apply br|refine bh ?_ (aA.ge dI.out))|exact HB.out));rintro e w11 ⟨rfl,hi,hb,hk⟩;refine ⟨_,rfl,?_⟩;have bB:=ah.mk (bC.trans eP hk (.inl rfl));have bL:=ah.mk (hb);have bY:=ah.mk (hi);clear HK;clear HB;clear dI;have HK:=bB;have HB:=bL;have dI:=bY;clear bB bL bY;(try clear hb);(try clear hb2);(try clear hk);(try clear hi)))
     go_ret
     exact ⟨cR,iG,iF,eP⟩
   ·replace c5:=Bool.eq_false_iff.mpr c5
    subst c5
    have H1:(some (false,t158,t159))=some (r1,r2,r3):=by rw [if_neg (show ¬ (false=true) by decide)] at H;exact H
    clear H
    have H:=H1
    clear H1
    simp only [Option.some.injEq,Prod.mk.injEq] at H
    obtain ⟨rfl,rfl,rfl⟩:=H
    go_wp2_with (first|(go_at_call 68;(with_reducible refine (fX.calls k1 g bE aZ false t158 t159 w0 _ ?aX ?bT A4.out).mono ?_);(case aX=>repeat (first|(with_reducible first|exact dI.out|apply aA.alloc|apply aA.drewN|apply aA.drew|apply aA.fZ|apply aA.fV)|exact dI.out));(case bT=>repeat (first|(with_reducible first|exact HB.out|apply aB|apply aC|apply br|refine bh ?_ (aA.ge dI.out))|exact HB.out));rintro e Rv ⟨rfl,hi,hb,hk⟩;have bB:=ah.mk (bC.trans eP hk (.inl rfl));have bL:=ah.mk (hb);have bY:=ah.mk (hi);clear HK;clear HB;clear dI;have HK:=bB;have HB:=bL;have dI:=bY;clear bB bL bY;(try clear hb);(try clear hb2);(try clear hk);(try clear hi)))
    go_ret
    exact ⟨cR,iG,iF,eP⟩
end Go.Proofs.YtokpnfljjjjikaaGreatDoor.pJ
