import Derived.Test.YtokpnfljjjjikaaGreatDoorZo
import Derived.Test.YtokpnfljjjjikaaGreatDoorQCbx0
import Derived.Test.YtokpnfljjjjikaaGreatDoorQCbx3
import Derived.Test.YtokpnfljjjjikaaGreatDoorEStr
namespace Go.Proofs.YtokpnfljjjjikaaGreatDoor.nX
open Go.RowKit Go.Proofs.aj.bW Go.Proofs.aj.fW Go.Proofs.aj.dz
attribute [local go_sem] jg jh kO kP iK iL ji jk
set_option linter.unusedVariables false
set_option linter.unusedSimpArgs false
def iR.f (a0:Int):Option (Bool):=(jx.f a0).bind fun t149=>(if t149=true then (some true) else ((jl.f a0).bind fun t150=>(if t150=true then (some true) else ((strings_IndexByte.f (⟨#[33,35,36,37,38,39,42,43,45,47,61,63,94,95,96,123,124,125,126]⟩:ByteArray) a0).bind fun t151=>(some (decide (t151≥0)))))))
set_option maxHeartbeats 8000000 in
set_option maxRecDepth 100000 in
theorem iR.calls (a0:Int) (r:Bool) (w:World) (h:iR.f a0=some r):
 Calls Tryz.prog 120 #[.int .u8 a0] w fun e w'=>e= .returned (.bool r)∧kg w w':=by
 have H:((jx.f a0).bind fun t149=>(if t149=true then (some true) else ((jl.f a0).bind fun t150=>(if t150=true then (some true) else ((strings_IndexByte.f (⟨#[33,35,36,37,38,39,42,43,45,47,61,63,94,95,96,123,124,125,126]⟩:ByteArray) a0).bind fun t151=>(some (decide (t151≥0))))))))=some r:=h
 clear h
 replace H:=Option.bind_eq_some_iff.mp H
 obtain ⟨t149,nK,H⟩:=H
 replace H:(if t149=true then (some true) else ((jl.f a0).bind fun t150=>(if t150=true then (some true) else ((strings_IndexByte.f (⟨#[33,35,36,37,38,39,42,43,45,47,61,63,94,95,96,123,124,125,126]⟩:ByteArray) a0).bind fun t151=>(some (decide (t151≥0)))))))=some r:=H
 have A2:=ah.mk nK
 clear nK
 by_cases c3:t149=true
 ·subst c3
  have H1:(some true)=some r:=by rw [if_pos rfl] at H;exact H
  clear H
  have H:=H1
  clear H1
  obtain rfl:=Option.some.inj H
  go_enter Tryz.func120,Tryz.ntmps120
  go_wp2_with (first|((with_reducible refine aN (f:=157) rfl ?_);refine cr (some 4) rfl rfl Tryz.func157 au rfl #[.int .u8 a0] rfl cV ?_;(with_reducible refine (jx.calls a0 true _ A2.out).mono ?_);rintro e w' ⟨rfl,⟨nd,rfl⟩⟩;refine ⟨_,rfl,?_⟩))
  go_ret
  exact ⟨ey,kJ⟩
 ·replace c3:=Bool.eq_false_iff.mpr c3
  subst c3
  have H1:((jl.f a0).bind fun t150=>(if t150=true then (some true) else ((strings_IndexByte.f (⟨#[33,35,36,37,38,39,42,43,45,47,61,63,94,95,96,123,124,125,126]⟩:ByteArray) a0).bind fun t151=>(some (decide (t151≥0))))))=some r:=by rw [if_neg (show ¬ (false=true) by decide)] at H;exact H
  clear H
  have H:=H1
  clear H1
  replace H:=Option.bind_eq_some_iff.mp H
  obtain ⟨t150,Cr,H⟩:=H
  replace H:(if t150=true then (some true) else ((strings_IndexByte.f (⟨#[33,35,36,37,38,39,42,43,45,47,61,63,94,95,96,123,124,125,126]⟩:ByteArray) a0).bind fun t151=>(some (decide (t151≥0)))))=some r:=H
  have A4:=ah.mk Cr
  clear Cr
  by_cases c5:t150=true
  ·subst c5
   have H1:(some true)=some r:=by rw [if_pos rfl] at H;exact H
   clear H
   have H:=H1
   clear H1
   obtain rfl:=Option.some.inj H
   go_enter Tryz.func120,Tryz.ntmps120
   go_wp2_with (first|((with_reducible refine aN (f:=157) rfl ?_);refine cr (some 4) rfl rfl Tryz.func157 au rfl #[.int .u8 a0] rfl cV ?_;(with_reducible refine (jx.calls a0 false _ A2.out).mono ?_);rintro e w' ⟨rfl,⟨nd,rfl⟩⟩;refine ⟨_,rfl,?_⟩)|(go_at_call 158;(with_reducible refine (jl.calls a0 true _ A4.out).mono ?_);rintro e w' ⟨rfl,⟨nd,rfl⟩⟩))
   go_ret
   exact ⟨ey,kJ⟩
  ·replace c5:=Bool.eq_false_iff.mpr c5
   subst c5
   have H1:((strings_IndexByte.f (⟨#[33,35,36,37,38,39,42,43,45,47,61,63,94,95,96,123,124,125,126]⟩:ByteArray) a0).bind fun t151=>(some (decide (t151≥0))))=some r:=by rw [if_neg (show ¬ (false=true) by decide)] at H;exact H
   clear H
   have H:=H1
   clear H1
   replace H:=Option.bind_eq_some_iff.mp H
   obtain ⟨t151,wR,H⟩:=H
   replace H:(some (decide (t151≥0)))=some r:=H
   have A6:=ah.mk wR
   clear wR
   obtain rfl:=Option.some.inj H
   go_enter Tryz.func120,Tryz.ntmps120
   go_wp2_with (first|((with_reducible refine aN (f:=157) rfl ?_);refine cr (some 4) rfl rfl Tryz.func157 au rfl #[.int .u8 a0] rfl cV ?_;(with_reducible refine (jx.calls a0 false _ A2.out).mono ?_);rintro e w' ⟨rfl,⟨nd,rfl⟩⟩;refine ⟨_,rfl,?_⟩)|(go_at_call 158;(with_reducible refine (jl.calls a0 false _ A4.out).mono ?_);rintro e w' ⟨rfl,⟨nd,rfl⟩⟩)|(go_at_call 159;(with_reducible refine (strings_IndexByte.calls (⟨#[33,35,36,37,38,39,42,43,45,47,61,63,94,95,96,123,124,125,126]⟩:ByteArray) a0 t151 _ A6.out).mono ?_);rintro e w' ⟨rfl,⟨nd,rfl⟩⟩))
   go_ret
   exact ⟨ey,kJ⟩
def bz.l0:Nat→Int→ByteArray→Int→Option (ByteArray×Bool×ByteArray×Int)
 | 0,_,_,_ =>none
 |k + 1,x6,gZ,fS=>if fS < (gZ.size:Int) then (if 0≤fS then ((iR.f (bt gZ fS)).bind fun t152=>(if t152=true then (bz.l0 k x6 gZ (wrap64 (fS + 1))) else (if 0≤x6 then (if x6≤fS then (if fS≤(gZ.size:Int) then (some (gZ.extract (x6:Int).toNat (fS:Int).toNat,decide (fS > x6),gZ,fS)) else (none)) else (none)) else (none)))) else (none)) else (if 0≤x6 then (if x6≤fS then (if fS≤(gZ.size:Int) then (some (gZ.extract (x6:Int).toNat (fS:Int).toNat,decide (fS > x6),gZ,fS)) else (none)) else (none)) else (none))
def bz.f (k:Nat) (eY:ByteArray) (cW:Int):Option (ByteArray×Bool×ByteArray×Int):=bz.l0 k cW eY cW
theorem bz.fR:∀ k,(∀ y0 y1 y2,cR (bz.l0 k y0 y1 y2) (bz.l0 (k + 1) y0 y1 y2))
 | 0=>fun _ _ _ r h=>by simp [bz.l0] at h
 |k + 1=>by
  have nY:=bz.fR k
  ·intro y0 y1 y2
   unfold bz.l0
   repeat' first
   |(with_reducible exact nY _ _ _)
   |(with_reducible exact cR.refl _)
   |(with_reducible exact cR.none _)
   |(with_reducible refine cR.ite ?_ ?_)
   |(with_reducible refine cR.bind ?_ (fun _ =>?_))
   |refine cR.ite ?_ ?_
   |refine cR.bind ?_ (fun _ =>?_)
theorem bz.mono:∀ a0 a1 k,cR (bz.f k a0 a1) (bz.f (k + 1) a0 a1):=by
 intro a0 a1 k
 have nY:=bz.fR k
 unfold bz.f
 repeat' first
  |(with_reducible exact nY _ _ _)
  |(with_reducible exact cR.refl _)
  |(with_reducible exact cR.none _)
  |(with_reducible refine cR.ite ?_ ?_)
  |(with_reducible refine cR.bind ?_ (fun _ =>?_))
  |refine cR.ite ?_ ?_
  |refine cR.bind ?_ (fun _ =>?_)
set_option maxHeartbeats 8000000 in
set_option maxRecDepth 100000 in
theorem bz.calls (k:Nat) (g:Nat) (eY:ByteArray) (cW:Int) (r1:ByteArray) (r2:Bool) (r3:ByteArray) (r4:Int) (w0 w:World) (hI:av w0 w g eY cW) (hB:Below w0.heap.size w0 w) (h:bz.f k eY cW=some (r1,r2,r3,r4)):
 Calls Tryz.prog 119 #[.pointer (some ⟨g,0,none⟩),.func (.func 120) #[] #[]] w fun e w'=>e= .returned (.tuple #[.string r1,.bool r2])∧av w0 w' g r3 r4∧Below w0.heap.size w0 w'∧bA w w' g none:=by
 have dO:=ah.mk hI
 have HK:=ah.mk (bA.refl w g none)
 have HL:=ah.mk hB.size
 clear hI
 have TW:=ah.mk hB.size
 have HB:=ah.mk hB
 clear hB
 have H:(bz.l0 k cW eY cW)=some (r1,r2,r3,r4):=h
 clear h
 have H':=ah.mk H
 clear H
 obtain ⟨xd,U2⟩:=dO.out
 have tS:=dW xd
 have tT:=dQ xd
 have tU:=aa xd 0
 have tV:=aa xd 1
 clear xd U2
 go_enter Tryz.func119,Tryz.ntmps119
 go_wp2
 repeat (go_quiet (fail);try go_wp2)
 go_loopg [] k (fun kq w'=>∃ (bC:ByteArray) (aY:Int),ah (bz.l0 kq cW bC aY=some (r1,r2,r3,r4))∧ah (kq≤k)∧ah (av w0 w' g bC aY)∧ah (bA w w' g none)∧ah (Below w0.heap.size w0 w'))
 case atStart=>exact ⟨(eY),(cW),H',⟨Nat.le_refl _⟩,⟨iy⟩,⟨eH⟩,⟨iw⟩⟩
 case round=>
  clear H'
  try clear c1
  try clear p2
  try clear tS
  try clear tT
  try clear tU
  try clear tV
  obtain ⟨bC,aY,HA,uC,dO,HK,HB⟩:=hrel
  cases gk with
  |zero=>exact absurd HA.out (by simp [bz.l0])
  |succ k1=>
   have H:=HA.out
   clear HA
   simp only [bz.l0] at H
   by_cases c4:aY < (bC.size:Int)
   ·rw [if_pos c4] at H
    have oL:decide (aY < (bC.size:Int))=true:=decide_eq_true c4
    clear c4
    by_cases c5: 0≤aY
    ·rw [if_pos c5] at H
     have tR:decide (0≤aY)=true:=decide_eq_true c5
     clear c5
     replace H:=Option.bind_eq_some_iff.mp H
     obtain ⟨t152,GW,H⟩:=H
     replace H:(if t152=true then (bz.l0 k1 cW bC (wrap64 (aY + 1))) else (if 0≤cW then (if cW≤aY then (if aY≤(bC.size:Int) then (some (bC.extract (cW:Int).toNat (aY:Int).toNat,decide (aY > cW),bC,aY)) else (none)) else (none)) else (none)))=some (r1,r2,r3,r4):=H
     have A7:=ah.mk GW
     clear GW
     by_cases c8:t152=true
     ·subst c8
      have H1:(bz.l0 k1 cW bC (wrap64 (aY + 1)))=some (r1,r2,r3,r4):=by rw [if_pos rfl] at H;exact H
      clear H
      have H:=H1
      clear H1
      have H':=ah.mk H
      clear H
      obtain ⟨pR,JT⟩:=dO.out
      have qp:=dW pR
      have qq:=dQ pR
      have qu:=aa pR 0
      have qw:=aa pR 1
      clear pR JT
      have p6: 0≤(aY:Int):=of_decide_eq_true cX
      have q6:aY < (bC.size:Int):=of_decide_eq_true cX
      have hx6:=gV bC aY
      replace p6:=eq_true p6
      replace q6:=eq_true q6
      go_wp2_with (first|(go_at_call 120;(with_reducible refine (iR.calls (bt bC aY) true _ A7.out).mono ?_);rintro e w' ⟨rfl,⟨nd,rfl⟩⟩;(try first|exact ⟨rfl,_,World.drewN_drewN _ _ _⟩|exact ⟨rfl,_,Eq.trans (World.drewN_drewN _ _ _) (congrArg (World.drewN _) (Nat.add_assoc _ _ _))⟩)))
      repeat (go_quiet (first|(go_at_call 120;(with_reducible refine (iR.calls (bt bC aY) true _ A7.out).mono ?_);rintro e w' ⟨rfl,⟨nd,rfl⟩⟩;(try first|exact ⟨rfl,_,World.drewN_drewN _ _ _⟩|exact ⟨rfl,_,Eq.trans (World.drewN_drewN _ _ _) (congrArg (World.drewN _) (Nat.add_assoc _ _ _))⟩)));try go_wp2_with (first|(go_at_call 120;(with_reducible refine (iR.calls (bt bC aY) true _ A7.out).mono ?_);rintro e w' ⟨rfl,⟨nd,rfl⟩⟩;(try first|exact ⟨rfl,_,World.drewN_drewN _ _ _⟩|exact ⟨rfl,_,Eq.trans (World.drewN_drewN _ _ _) (congrArg (World.drewN _) (Nat.add_assoc _ _ _))⟩))))
      go_roundg k1
      case measure=>have:=uC.out;omega
      case rel=>exact ⟨(bC),(wrap64 (aY + 1)),H',⟨j6⟩,⟨iy⟩,⟨eH⟩,⟨iw⟩⟩
     ·replace c8:=Bool.eq_false_iff.mpr c8
      subst c8
      have H1:(if 0≤cW then (if cW≤aY then (if aY≤(bC.size:Int) then (some (bC.extract (cW:Int).toNat (aY:Int).toNat,decide (aY > cW),bC,aY)) else (none)) else (none)) else (none))=some (r1,r2,r3,r4):=by rw [if_neg (show ¬ (false=true) by decide)] at H;exact H
      clear H
      have H:=H1
      clear H1
      by_cases c10: 0≤cW
      ·rw [if_pos c10] at H
       have pO:=eq_true c10
       have yZ:decide (0≤cW)=true:=decide_eq_true c10
       clear c10
       by_cases c11:cW≤aY
       ·rw [if_pos c11] at H
        have za:=eq_true c11
        have LG:decide (cW≤aY)=true:=decide_eq_true c11
        clear c11
        by_cases c12:aY≤(bC.size:Int)
        ·rw [if_pos c12] at H
         have Ct:=eq_true c12
         have LH:decide (aY≤(bC.size:Int))=true:=decide_eq_true c12
         clear c12
         simp only [Option.some.injEq,Prod.mk.injEq] at H
         obtain ⟨rfl,rfl,rfl,rfl⟩:=H
         obtain ⟨qO,LS⟩:=dO.out
         have qC:=dW qO
         have qD:=dQ qO
         have qE:=aa qO 0
         have qF:=aa qO 1
         clear qO LS
         have p6: 0≤(aY:Int):=of_decide_eq_true cX
         have q6:aY < (bC.size:Int):=of_decide_eq_true cX
         have hx6:=gV bC aY
         replace p6:=eq_true p6
         replace q6:=eq_true q6
         go_wp2_with (first|(go_at_call 120;(with_reducible refine (iR.calls (bt bC aY) false _ A7.out).mono ?_);rintro e w' ⟨rfl,⟨nd,rfl⟩⟩;(try first|exact ⟨rfl,_,World.drewN_drewN _ _ _⟩|exact ⟨rfl,_,Eq.trans (World.drewN_drewN _ _ _) (congrArg (World.drewN _) (Nat.add_assoc _ _ _))⟩)))
         repeat (go_quiet (first|(go_at_call 120;(with_reducible refine (iR.calls (bt bC aY) false _ A7.out).mono ?_);rintro e w' ⟨rfl,⟨nd,rfl⟩⟩;(try first|exact ⟨rfl,_,World.drewN_drewN _ _ _⟩|exact ⟨rfl,_,Eq.trans (World.drewN_drewN _ _ _) (congrArg (World.drewN _) (Nat.add_assoc _ _ _))⟩)));try go_wp2_with (first|(go_at_call 120;(with_reducible refine (iR.calls (bt bC aY) false _ A7.out).mono ?_);rintro e w' ⟨rfl,⟨nd,rfl⟩⟩;(try first|exact ⟨rfl,_,World.drewN_drewN _ _ _⟩|exact ⟨rfl,_,Eq.trans (World.drewN_drewN _ _ _) (congrArg (World.drewN _) (Nat.add_assoc _ _ _))⟩))))
         go_ret2
         exact ⟨cZ,iy,iw,eH⟩
        ·rw [if_neg c12] at H
         exact absurd H bn
       ·rw [if_neg c11] at H
        exact absurd H bn
      ·rw [if_neg c10] at H
       exact absurd H bn
    ·rw [if_neg c5] at H
     exact absurd H bn
   ·rw [if_neg c4] at H
    have oL:decide (aY < (bC.size:Int))=false:=decide_eq_false c4
    clear c4
    by_cases c14: 0≤cW
    ·rw [if_pos c14] at H
     have LU:=eq_true c14
     have LV:decide (0≤cW)=true:=decide_eq_true c14
     clear c14
     by_cases c15:cW≤aY
     ·rw [if_pos c15] at H
      have Fj:=eq_true c15
      have Re:decide (cW≤aY)=true:=decide_eq_true c15
      clear c15
      by_cases c16:aY≤(bC.size:Int)
      ·rw [if_pos c16] at H
       have aaI:=eq_true c16
       have aaJ:decide (aY≤(bC.size:Int))=true:=decide_eq_true c16
       clear c16
       simp only [Option.some.injEq,Prod.mk.injEq] at H
       obtain ⟨rfl,rfl,rfl,rfl⟩:=H
       obtain ⟨qP,LW⟩:=dO.out
       have tv:=dW qP
       have tA:=dQ qP
       have tB:=aa qP 0
       have tC:=aa qP 1
       clear qP LW
       go_wp2
       repeat (go_quiet (fail);try go_wp2)
       go_ret2
       exact ⟨cZ,iy,iw,eH⟩
      ·rw [if_neg c16] at H
       exact absurd H bn
     ·rw [if_neg c15] at H
      exact absurd H bn
    ·rw [if_neg c14] at H
     exact absurd H bn
def fO.f (k:Nat) (eY:ByteArray) (cW:Int):Option (Bool×ByteArray×Int):=(bz.f k eY cW).bind fun Fk=>(some (Fk.2.1,Fk.2.2.1,Fk.2.2.2))
theorem fO.mono:∀ a0 a1 k,cR (fO.f k a0 a1) (fO.f (k + 1) a0 a1):=by
 intro a0 a1 k
 unfold fO.f
 repeat' first
  |(with_reducible exact bz.mono _ _ _)
  |(with_reducible exact cR.refl _)
  |(with_reducible exact cR.none _)
  |(with_reducible refine cR.ite ?_ ?_)
  |(with_reducible refine cR.bind ?_ (fun _ =>?_))
  |refine cR.ite ?_ ?_
  |refine cR.bind ?_ (fun _ =>?_)
set_option maxHeartbeats 8000000 in
set_option maxRecDepth 100000 in
theorem fO.calls (k:Nat) (g:Nat) (eY:ByteArray) (cW:Int) (r1:Bool) (r2:ByteArray) (r3:Int) (w0 w:World) (hI:av w0 w g eY cW) (hB:Below w0.heap.size w0 w) (h:fO.f k eY cW=some (r1,r2,r3)):
 Calls Tryz.prog 68 #[.pointer (some ⟨g,0,none⟩)] w fun e w'=>e= .returned (.bool r1)∧av w0 w' g r2 r3∧Below w0.heap.size w0 w'∧bA w w' g none:=by
 have dO:=ah.mk hI
 have HK:=ah.mk (bA.refl w g none)
 have HL:=ah.mk hB.size
 clear hI
 have TW:=ah.mk hB.size
 have HB:=ah.mk hB
 clear hB
 have H:((bz.f k eY cW).bind fun Fk=>(some (Fk.2.1,Fk.2.2.1,Fk.2.2.2)))=some (r1,r2,r3):=h
 clear h
 replace H:=Option.bind_eq_some_iff.mp H
 obtain ⟨⟨t153,t154,t155,t156⟩,nK,H⟩:=H
 replace H:(some (t154,t155,t156))=some (r1,r2,r3):=H
 have A2:=ah.mk nK
 clear nK
 simp only [Option.some.injEq,Prod.mk.injEq] at H
 obtain ⟨rfl,rfl,rfl⟩:=H
 go_enter Tryz.func68,Tryz.ntmps68
 go_wp2_with (first|((with_reducible refine aN (f:=119) rfl ?_);refine cr (some 7) rfl rfl Tryz.func119 au rfl #[.pointer (some ⟨g,0,none⟩),.func (.func 120) #[] #[]] rfl cV ?_;(with_reducible refine (bz.calls k g eY cW t153 t154 t155 t156 w0 _ ?aX ?bS A2.out).mono ?_);(case aX=>repeat (first|(with_reducible first|exact dO.out|apply av.alloc|apply av.drewN|apply av.drew|apply av.fQ|apply av.fM)|exact dO.out));(case bS=>repeat (first|(with_reducible first|exact HB.out|apply az|apply aB|apply bu|refine bp ?_ (av.ge dO.out))|exact HB.out));rintro e w3 ⟨rfl,hi,hb,hk⟩;refine ⟨_,rfl,?_⟩;have bD:=ah.mk (bA.trans eH hk (.inl rfl));have bN:=ah.mk (hb);have cz:=ah.mk (hi);clear HK;clear HB;clear dO;have HK:=bD;have HB:=bN;have dO:=cz;clear bD bN cz;(try clear hb);(try clear hb2);(try clear hk);(try clear hi)))
 go_ret
 exact ⟨cZ,iy,iw,eH⟩
def dn.f (eY:ByteArray) (cW:Int):Option (Int×ByteArray×Int):=if cW < (eY.size:Int) then (if 0≤cW then (some (bt eY cW,eY,cW)) else (none)) else (some (0,eY,cW))
set_option maxHeartbeats 8000000 in
set_option maxRecDepth 100000 in
theorem dn.calls (g:Nat) (eY:ByteArray) (cW:Int) (r1:Int) (r2:ByteArray) (r3:Int) (w0 w:World) (hI:av w0 w g eY cW) (hB:Below w0.heap.size w0 w) (h:dn.f eY cW=some (r1,r2,r3)):
 Calls Tryz.prog 115 #[.pointer (some ⟨g,0,none⟩)] w fun e w'=>e= .returned (.int .u8 r1)∧av w0 w' g r2 r3∧Below w0.heap.size w0 w'∧bA w w' g none:=by
 have dO:=ah.mk hI
 have HK:=ah.mk (bA.refl w g none)
 have HL:=ah.mk hB.size
 clear hI
 have TW:=ah.mk hB.size
 have HB:=ah.mk hB
 clear hB
 have H:(if cW < (eY.size:Int) then (if 0≤cW then (some (bt eY cW,eY,cW)) else (none)) else (some (0,eY,cW)))=some (r1,r2,r3):=h
 clear h
 by_cases c2:cW < (eY.size:Int)
 ·rw [if_pos c2] at H
  have BM:decide (cW < (eY.size:Int))=true:=decide_eq_true c2
  clear c2
  by_cases c3: 0≤cW
  ·rw [if_pos c3] at H
   have qm:decide (0≤cW)=true:=decide_eq_true c3
   clear c3
   simp only [Option.some.injEq,Prod.mk.injEq] at H
   obtain ⟨rfl,rfl,rfl⟩:=H
   obtain ⟨U5,anh⟩:=dO.out
   have JU:=dW U5
   have JV:=dQ U5
   have JW:=aa U5 0
   have JX:=aa U5 1
   clear U5 anh
   have p4: 0≤(cW:Int):=of_decide_eq_true cX
   have q4:cW < (eY.size:Int):=of_decide_eq_true cX
   have hx4:=gV eY cW
   replace p4:=eq_true p4
   replace q4:=eq_true q4
   go_enter Tryz.func115,Tryz.ntmps115
   go_wp2
   repeat (go_quiet (fail);try go_wp2)
   go_ret
   exact ⟨cZ,iy,iw,eH⟩
  ·rw [if_neg c3] at H
   exact absurd H bn
 ·rw [if_neg c2] at H
  have BM:decide (cW < (eY.size:Int))=false:=decide_eq_false c2
  clear c2
  simp only [Option.some.injEq,Prod.mk.injEq] at H
  obtain ⟨rfl,rfl,rfl⟩:=H
  obtain ⟨U6,ani⟩:=dO.out
  have U7:=dW U6
  have U8:=dQ U6
  have U9:=aa U6 0
  have Va:=aa U6 1
  clear U6 ani
  go_enter Tryz.func115,Tryz.ntmps115
  go_wp2
  repeat (go_quiet (fail);try go_wp2)
  go_ret
  exact ⟨cZ,iy,iw,eH⟩
def aI.l0:Nat→Int→ByteArray→Int→Option (Bool×ByteArray×Int)
 | 0,_,_,_ =>none
 |k + 1,x1,gZ,fS=>(fO.f k gZ fS).bind fun L3=>(if L3.1=true then ((br.f L3.2.1 L3.2.2 x1).bind fun qU=>(if qU.1=true then (aI.l0 k x1 qU.2.1 qU.2.2) else (some (true,qU.2.1,qU.2.2)))) else (some (false,L3.2.1,L3.2.2)))
def aI.f (k:Nat) (eY:ByteArray) (cW:Int) (a1:Int):Option (Bool×ByteArray×Int):=aI.l0 k a1 eY cW
theorem aI.fR:∀ k,(∀ y0 y1 y2,cR (aI.l0 k y0 y1 y2) (aI.l0 (k + 1) y0 y1 y2))
 | 0=>fun _ _ _ r h=>by simp [aI.l0] at h
 |k + 1=>by
  have nY:=aI.fR k
  ·intro y0 y1 y2
   unfold aI.l0
   repeat' first
   |(with_reducible exact nY _ _ _)
   |(with_reducible exact fO.mono _ _ _)
   |(with_reducible exact cR.refl _)
   |(with_reducible exact cR.none _)
   |(with_reducible refine cR.ite ?_ ?_)
   |(with_reducible refine cR.bind ?_ (fun _ =>?_))
   |refine cR.ite ?_ ?_
   |refine cR.bind ?_ (fun _ =>?_)
theorem aI.mono:∀ a0 a1 a2 k,cR (aI.f k a0 a1 a2) (aI.f (k + 1) a0 a1 a2):=by
 intro a0 a1 a2 k
 have nY:=aI.fR k
 unfold aI.f
 repeat' first
  |(with_reducible exact nY _ _ _)
  |(with_reducible exact fO.mono _ _ _)
  |(with_reducible exact cR.refl _)
  |(with_reducible exact cR.none _)
  |(with_reducible refine cR.ite ?_ ?_)
  |(with_reducible refine cR.bind ?_ (fun _ =>?_))
  |refine cR.ite ?_ ?_
  |refine cR.bind ?_ (fun _ =>?_)
set_option maxHeartbeats 8000000 in
set_option maxRecDepth 100000 in
theorem aI.calls (k:Nat) (g:Nat) (eY:ByteArray) (cW:Int) (a1:Int) (r1:Bool) (r2:ByteArray) (r3:Int) (w0 w:World) (hI:av w0 w g eY cW) (hB:Below w0.heap.size w0 w) (h:aI.f k eY cW a1=some (r1,r2,r3)):
 Calls Tryz.prog 67 #[.pointer (some ⟨g,0,none⟩),.int .u8 a1,.func (.func 68) #[.pointer (some ⟨g,0,none⟩)] #[]] w fun e w'=>e= .returned (.bool r1)∧av w0 w' g r2 r3∧Below w0.heap.size w0 w'∧bA w w' g none:=by
 have dO:=ah.mk hI
 have HK:=ah.mk (bA.refl w g none)
 have HL:=ah.mk hB.size
 clear hI
 have TW:=ah.mk hB.size
 have HB:=ah.mk hB
 clear hB
 have H:(aI.l0 k a1 eY cW)=some (r1,r2,r3):=h
 clear h
 have H':=ah.mk H
 clear H
 go_enter Tryz.func67,Tryz.ntmps67
 go_wp2
 go_loopg [] k (fun kq w'=>∃ (bC:ByteArray) (aY:Int),ah (aI.l0 kq a1 bC aY=some (r1,r2,r3))∧ah (kq≤k)∧ah (av w0 w' g bC aY)∧ah (bA w w' g none)∧ah (Below w0.heap.size w0 w'))
 case atStart=>exact ⟨(eY),(cW),H',⟨Nat.le_refl _⟩,⟨iy⟩,⟨eH⟩,⟨iw⟩⟩
 case round=>
  clear H'
  try clear p2
  obtain ⟨bC,aY,HA,uC,dO,HK,HB⟩:=hrel
  cases gk with
  |zero=>exact absurd HA.out (by simp [aI.l0])
  |succ k1=>
   have H:=HA.out
   clear HA
   simp only [aI.l0] at H
   replace H:=Option.bind_eq_some_iff.mp H
   obtain ⟨⟨t157,t158,t159⟩,Cr,H⟩:=H
   replace H:(if t157=true then ((br.f t158 t159 a1).bind fun qU=>(if qU.1=true then (aI.l0 k1 a1 qU.2.1 qU.2.2) else (some (true,qU.2.1,qU.2.2)))) else (some (false,t158,t159)))=some (r1,r2,r3):=H
   have A4:=ah.mk Cr
   clear Cr
   by_cases c5:t157=true
   ·subst c5
    have H1:((br.f t158 t159 a1).bind fun qU=>(if qU.1=true then (aI.l0 k1 a1 qU.2.1 qU.2.2) else (some (true,qU.2.1,qU.2.2))))=some (r1,r2,r3):=by rw [if_pos rfl] at H;exact H
    clear H
    have H:=H1
    clear H1
    replace H:=Option.bind_eq_some_iff.mp H
    obtain ⟨⟨t160,t161,t162⟩,wR,H⟩:=H
    replace H:(if t160=true then (aI.l0 k1 a1 t161 t162) else (some (true,t161,t162)))=some (r1,r2,r3):=H
    have A6:=ah.mk wR
    clear wR
    by_cases c7:t160=true
    ·subst c7
     have H1:(aI.l0 k1 a1 t161 t162)=some (r1,r2,r3):=by rw [if_pos rfl] at H;exact H
     clear H
     have H:=H1
     clear H1
     have H':=ah.mk H
     clear H
     go_wp2_with (first|(go_at_call 68;(with_reducible refine (fO.calls k1 g bC aY true t158 t159 w0 _ ?aX ?bS A4.out).mono ?_);(case aX=>repeat (first|(with_reducible first|exact dO.out|apply av.alloc|apply av.drewN|apply av.drew|apply av.fQ|apply av.fM)|exact dO.out));(case bS=>repeat (first|(with_reducible first|exact HB.out|apply az|apply aB|apply bu|refine bp ?_ (av.ge dO.out))|exact HB.out));rintro e w8 ⟨rfl,hi,hb,hk⟩;have bD:=ah.mk (bA.trans eH hk (.inl rfl));have bN:=ah.mk (hb);have cz:=ah.mk (hi);clear HK;clear HB;clear dO;have HK:=bD;have HB:=bN;have dO:=cz;clear bD bN cz;(try clear hb);(try clear hb2);(try clear hk);(try clear hi))|((with_reducible refine aN (f:=56) rfl ?_);refine cr (some 11) rfl rfl Tryz.func56 au rfl #[.pointer (some ⟨g,0,none⟩),.int .u8 a1] rfl cV ?_;(with_reducible refine (br.calls g t158 t159 a1 true t161 t162 w0 _ ?aX ?bS A6.out).mono ?_);(case aX=>repeat (first|(with_reducible first|exact dO.out|apply av.alloc|apply av.drewN|apply av.drew|apply av.fQ|apply av.fM)|exact dO.out));(case bS=>repeat (first|(with_reducible first|exact HB.out|apply az|apply aB|apply bu|refine bp ?_ (av.ge dO.out))|exact HB.out));rintro e w9 ⟨rfl,hi,hb,hk⟩;refine ⟨_,rfl,?_⟩;have bD:=ah.mk (bA.trans eH hk (.inl rfl));have bN:=ah.mk (hb);have cz:=ah.mk (hi);clear HK;clear HB;clear dO;have HK:=bD;have HB:=bN;have dO:=cz;clear bD bN cz;(try clear hb);(try clear hb2);(try clear hk);(try clear hi)))
     go_roundg k1
     case measure=>have:=uC.out;omega
     case rel=>exact ⟨(t161),(t162),H',⟨j6⟩,⟨iy⟩,⟨eH⟩,⟨iw⟩⟩
    ·replace c7:=Bool.eq_false_iff.mpr c7
     subst c7
     have H1:(some (true,t161,t162))=some (r1,r2,r3):=by rw [if_neg (show ¬ (false=true) by decide)] at H;exact H
     clear H
     have H:=H1
     clear H1
     simp only [Option.some.injEq,Prod.mk.injEq] at H
     obtain ⟨rfl,rfl,rfl⟩:=H
     go_wp2_with (first|(go_at_call 68;(with_reducible refine (fO.calls k1 g bC aY true t158 t159 w0 _ ?aX ?bS A4.out).mono ?_);(case aX=>repeat (first|(with_reducible first|exact dO.out|apply av.alloc|apply av.drewN|apply av.drew|apply av.fQ|apply av.fM)|exact dO.out));(case bS=>repeat (first|(with_reducible first|exact HB.out|apply az|apply aB|apply bu|refine bp ?_ (av.ge dO.out))|exact HB.out));rintro e sV ⟨rfl,hi,hb,hk⟩;have bD:=ah.mk (bA.trans eH hk (.inl rfl));have bN:=ah.mk (hb);have cz:=ah.mk (hi);clear HK;clear HB;clear dO;have HK:=bD;have HB:=bN;have dO:=cz;clear bD bN cz;(try clear hb);(try clear hb2);(try clear hk);(try clear hi))|((with_reducible refine aN (f:=56) rfl ?_);refine cr (some 11) rfl rfl Tryz.func56 au rfl #[.pointer (some ⟨g,0,none⟩),.int .u8 a1] rfl cV ?_;(with_reducible refine (br.calls g t158 t159 a1 false t161 t162 w0 _ ?aX ?bS A6.out).mono ?_);(case aX=>repeat (first|(with_reducible first|exact dO.out|apply av.alloc|apply av.drewN|apply av.drew|apply av.fQ|apply av.fM)|exact dO.out));(case bS=>repeat (first|(with_reducible first|exact HB.out|apply az|apply aB|apply bu|refine bp ?_ (av.ge dO.out))|exact HB.out));rintro e w11 ⟨rfl,hi,hb,hk⟩;refine ⟨_,rfl,?_⟩;have bD:=ah.mk (bA.trans eH hk (.inl rfl));have bN:=ah.mk (hb);have cz:=ah.mk (hi);clear HK;clear HB;clear dO;have HK:=bD;have HB:=bN;have dO:=cz;clear bD bN cz;(try clear hb);(try clear hb2);(try clear hk);(try clear hi)))
     go_ret
     exact ⟨cZ,iy,iw,eH⟩
   ·replace c5:=Bool.eq_false_iff.mpr c5
    subst c5
    have H1:(some (false,t158,t159))=some (r1,r2,r3):=by rw [if_neg (show ¬ (false=true) by decide)] at H;exact H
    clear H
    have H:=H1
    clear H1
    simp only [Option.some.injEq,Prod.mk.injEq] at H
    obtain ⟨rfl,rfl,rfl⟩:=H
    go_wp2_with (first|(go_at_call 68;(with_reducible refine (fO.calls k1 g bC aY false t158 t159 w0 _ ?aX ?bS A4.out).mono ?_);(case aX=>repeat (first|(with_reducible first|exact dO.out|apply av.alloc|apply av.drewN|apply av.drew|apply av.fQ|apply av.fM)|exact dO.out));(case bS=>repeat (first|(with_reducible first|exact HB.out|apply az|apply aB|apply bu|refine bp ?_ (av.ge dO.out))|exact HB.out));rintro e SX ⟨rfl,hi,hb,hk⟩;have bD:=ah.mk (bA.trans eH hk (.inl rfl));have bN:=ah.mk (hb);have cz:=ah.mk (hi);clear HK;clear HB;clear dO;have HK:=bD;have HB:=bN;have dO:=cz;clear bD bN cz;(try clear hb);(try clear hb2);(try clear hk);(try clear hi)))
    go_ret
    exact ⟨cZ,iy,iw,eH⟩
end Go.Proofs.YtokpnfljjjjikaaGreatDoor.nX
