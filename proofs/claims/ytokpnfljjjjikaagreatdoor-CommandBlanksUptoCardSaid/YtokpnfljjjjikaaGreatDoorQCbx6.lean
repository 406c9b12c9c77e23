import Derived.Test.YtokpnfljjjjikaaGreatDoorQCbx3
set_option maxHeartbeats 8000000
set_option maxRecDepth 100000
namespace Go.Proofs.YtokpnfljjjjikaaGreatDoor.nK
open Go.RowKit Go.Proofs.aj.bQ Go.Proofs.aj.fR Go.Proofs.aj.cM
attribute [local go_sem] iY iZ ku kA ig ij jc jd
set_option linter.unusedVariables false
set_option linter.unusedSimpArgs false
def iF.f (a0:Int):Option (Bool):=(jl.f a0).bind fun t149=>(if t149=true then (some true) else ((je.f a0).bind fun t150=>(if t150=true then (some true) else ((strings_IndexByte.f (⟨#[33,35,36,37,38,39,42,43,45,47,61,63,94,95,96,123,124,125,126]⟩:ByteArray) a0).bind fun t151=>(some (decide (t151≥0)))))))
theorem iF.calls (a0:Int) (r:Bool) (w:World) (h:iF.f a0=some r):
 Calls Tryz.prog 120 #[.int .u8 a0] w fun e w'=>e= .returned (.bool r)∧jr w w':=by
 have H:((jl.f a0).bind fun t149=>(if t149=true then (some true) else ((je.f a0).bind fun t150=>(if t150=true then (some true) else ((strings_IndexByte.f (⟨#[33,35,36,37,38,39,42,43,45,47,61,63,94,95,96,123,124,125,126]⟩:ByteArray) a0).bind fun t151=>(some (decide (t151≥0))))))))=some r:=h
 clear h
 replace H:=Option.bind_eq_some_iff.mp H
 obtain ⟨t149,nr,H⟩:=H
 replace H:(if t149=true then (some true) else ((je.f a0).bind fun t150=>(if t150=true then (some true) else ((strings_IndexByte.f (⟨#[33,35,36,37,38,39,42,43,45,47,61,63,94,95,96,123,124,125,126]⟩:ByteArray) a0).bind fun t151=>(some (decide (t151≥0)))))))=some r:=H
 have A2:=ah.mk nr
 clear nr
 by_cases c3:t149=true
 ·subst c3
  have H1:(some true)=some r:=by rw [if_pos rfl] at H;exact H
  clear H
  have H:=H1
  clear H1
  obtain rfl:=Option.some.inj H
  go_enter Tryz.func120,Tryz.ntmps120
  go_wp2_with (first|((with_reducible refine aU (f:=157) rfl ?_);refine cB (some 4) rfl rfl Tryz.func157 av rfl #[.int .u8 a0] rfl cX ?_;(with_reducible refine (jl.calls a0 true _ A2.out).mono ?_);rintro e w' ⟨rfl,⟨nd,rfl⟩⟩;refine ⟨_,rfl,?_⟩))
  go_ret
  exact ⟨dG,ke⟩
 ·replace c3:=Bool.eq_false_iff.mpr c3
  subst c3
  have H1:((je.f a0).bind fun t150=>(if t150=true then (some true) else ((strings_IndexByte.f (⟨#[33,35,36,37,38,39,42,43,45,47,61,63,94,95,96,123,124,125,126]⟩:ByteArray) a0).bind fun t151=>(some (decide (t151≥0))))))=some r:=by rw [if_neg (show ¬ (false=true) by decide)] at H;exact H
  clear H
  have H:=H1
  clear H1
  replace H:=Option.bind_eq_some_iff.mp H
  obtain ⟨t150,CC,H⟩:=H
  replace H:(if t150=true then (some true) else ((strings_IndexByte.f (⟨#[33,35,36,37,38,39,42,43,45,47,61,63,94,95,96,123,124,125,126]⟩:ByteArray) a0).bind fun t151=>(some (decide (t151≥0)))))=some r:=H
  have A4:=ah.mk CC
  clear CC
  by_cases c5:t150=true
  ·subst c5
   have H1:(some true)=some r:=by rw [if_pos rfl] at H;exact H
   clear H
   have H:=H1
   clear H1
   obtain rfl:=Option.some.inj H
   go_enter Tryz.func120,Tryz.ntmps120
   go_wp2_with (first|((with_reducible refine aU (f:=157) rfl ?_);refine cB (some 4) rfl rfl Tryz.func157 av rfl #[.int .u8 a0] rfl cX ?_;(with_reducible refine (jl.calls a0 false _ A2.out).mono ?_);rintro e w' ⟨rfl,⟨nd,rfl⟩⟩;refine ⟨_,rfl,?_⟩)|(go_at_call 158;(with_reducible refine (je.calls a0 true _ A4.out).mono ?_);rintro e w' ⟨rfl,⟨nd,rfl⟩⟩))
   go_ret
   exact ⟨dG,ke⟩
  ·replace c5:=Bool.eq_false_iff.mpr c5
   subst c5
   have H1:((strings_IndexByte.f (⟨#[33,35,36,37,38,39,42,43,45,47,61,63,94,95,96,123,124,125,126]⟩:ByteArray) a0).bind fun t151=>(some (decide (t151≥0))))=some r:=by rw [if_neg (show ¬ (false=true) by decide)] at H;exact H
   clear H
   have H:=H1
   clear H1
   replace H:=Option.bind_eq_some_iff.mp H
   obtain ⟨t151,wK,H⟩:=H
   replace H:(some (decide (t151≥0)))=some r:=H
   have A6:=ah.mk wK
   clear wK
   obtain rfl:=Option.some.inj H
   go_enter Tryz.func120,Tryz.ntmps120
   go_wp2_with (first|((with_reducible refine aU (f:=157) rfl ?_);refine cB (some 4) rfl rfl Tryz.func157 av rfl #[.int .u8 a0] rfl cX ?_;(with_reducible refine (jl.calls a0 false _ A2.out).mono ?_);rintro e w' ⟨rfl,⟨nd,rfl⟩⟩;refine ⟨_,rfl,?_⟩)|(go_at_call 158;(with_reducible refine (je.calls a0 false _ A4.out).mono ?_);rintro e w' ⟨rfl,⟨nd,rfl⟩⟩)|(go_at_call 159;(with_reducible refine (strings_IndexByte.calls (⟨#[33,35,36,37,38,39,42,43,45,47,61,63,94,95,96,123,124,125,126]⟩:ByteArray) a0 t151 _ A6.out).mono ?_);rintro e w' ⟨rfl,⟨nd,rfl⟩⟩))
   go_ret
   exact ⟨dG,ke⟩
def bq.l0:Nat→Int→ByteArray→Int→Option (ByteArray×Bool×ByteArray×Int)
 | 0,_,_,_ =>none
 |k + 1,x6,gM,fM=>if fM < (gM.size:Int) then (if 0≤fM then ((iF.f (bt gM fM)).bind fun t152=>(if t152=true then (bq.l0 k x6 gM (wrap64 (fM + 1))) else (if 0≤x6 then (if x6≤fM then (if fM≤(gM.size:Int) then (some (gM.extract (x6:Int).toNat (fM:Int).toNat,decide (fM > x6),gM,fM)) else (none)) else (none)) else (none)))) else (none)) else (if 0≤x6 then (if x6≤fM then (if fM≤(gM.size:Int) then (some (gM.extract (x6:Int).toNat (fM:Int).toNat,decide (fM > x6),gM,fM)) else (none)) else (none)) else (none))
def bq.f (k:Nat) (eP:ByteArray) (cK:Int):Option (ByteArray×Bool×ByteArray×Int):=bq.l0 k cK eP cK
theorem bq.fJ:∀ k,(∀ y0 y1 y2,cH (bq.l0 k y0 y1 y2) (bq.l0 (k + 1) y0 y1 y2))
 | 0=>fun _ _ _ r h=>by simp [bq.l0] at h
 |k + 1=>by
  have nP:=bq.fJ k
  ·intro y0 y1 y2
   unfold bq.l0
   repeat' first
   |(with_reducible exact nP _ _ _)
   |(with_reducible exact cH.refl _)
   |(with_reducible exact cH.none _)
   |(with_reducible refine cH.ite ?_ ?_)
   |(with_reducible refine cH.bind ?_ (fun _ =>?_))
   |refine cH.ite ?_ ?_
   |refine cH.bind ?_ (fun _ =>?_)
theorem bq.mono:∀ a0 a1 k,cH (bq.f k a0 a1) (bq.f (k + 1) a0 a1):=by
 intro a0 a1 k
 have nP:=bq.fJ k
 unfold bq.f
 repeat' first
  |(with_reducible exact nP _ _ _)
  |(with_reducible exact cH.refl _)
  |(with_reducible exact cH.none _)
  |(with_reducible refine cH.ite ?_ ?_)
  |(with_reducible refine cH.bind ?_ (fun _ =>?_))
  |refine cH.ite ?_ ?_
  |refine cH.bind ?_ (fun _ =>?_)
theorem bq.calls (k:Nat) (g:Nat) (eP:ByteArray) (cK:Int) (r1:ByteArray) (r2:Bool) (r3:ByteArray) (r4:Int) (w0 w:World) (hI:ay w0 w g eP cK) (hB:Below w0.heap.size w0 w) (h:bq.f k eP cK=some (r1,r2,r3,r4)):
 Calls Tryz.prog 119 #[.pointer (some ⟨g,0,none⟩),.func (.func 120) #[] #[]] w fun e w'=>e= .returned (.tuple #[.string r1,.bool r2])∧ay w0 w' g r3 r4∧Below w0.heap.size w0 w'∧br w w' g none:=by
 have dx:=ah.mk hI
 have HK:=ah.mk (br.refl w g none)
 have HL:=ah.mk hB.size
 clear hI
 have TQ:=ah.mk hB.size
 have HB:=ah.mk hB
 clear hB
 have H:(bq.l0 k cK eP cK)=some (r1,r2,r3,r4):=h
 clear h
 have H':=ah.mk H
 clear H
 obtain ⟨wP,UE⟩:=dx.out
 have tS:=dI wP
 have tT:=dB wP
 have tU:=aa wP 0
 have tV:=aa wP 1
 clear wP UE
 go_enter Tryz.func119,Tryz.ntmps119
 go_wp2
 repeat (go_quiet (fail);try go_wp2)
 go_loopg [] k (fun kq w'=>∃ (bw:ByteArray) (aT:Int),ah (bq.l0 kq cK bw aT=some (r1,r2,r3,r4))∧ah (kq≤k)∧ah (ay w0 w' g bw aT)∧ah (br w w' g none)∧ah (Below w0.heap.size w0 w'))
 case atStart=>exact ⟨(eP),(cK),H',⟨Nat.le_refl _⟩,⟨gU⟩,⟨ez⟩,⟨gT⟩⟩
 case round=>
  clear H'
  try clear c1
  try clear p2
  try clear tS
  try clear tT
  try clear tU
  try clear tV
  obtain ⟨bw,aT,HA,uz,dx,HK,HB⟩:=hrel
  cases gk with
  |zero=>exact absurd HA.out (by simp [bq.l0])
  |succ k1=>
   have H:=HA.out
   clear HA
   simp only [bq.l0] at H
   by_cases c4:aT < (bw.size:Int)
   ·rw [if_pos c4] at H
    have oC:decide (aT < (bw.size:Int))=true:=decide_eq_true c4
    clear c4
    by_cases c5: 0≤aT
    ·rw [if_pos c5] at H
     have tR:decide (0≤aT)=true:=decide_eq_true c5
     clear c5
     replace H:=Option.bind_eq_some_iff.mp H
     obtain ⟨t152,GJ,H⟩:=H
     replace H:(if t152=true then (bq.l0 k1 cK bw (wrap64 (aT + 1))) else (if 0≤cK then (if cK≤aT then (if aT≤(bw.size:Int) then (some (bw.extract (cK:Int).toNat (aT:Int).toNat,decide (aT > cK),bw,aT)) else (none)) else (none)) else (none)))=some (r1,r2,r3,r4):=H
     have A7:=ah.mk GJ
     clear GJ
     by_cases c8:t152=true
     ·subst c8
      have H1:(bq.l0 k1 cK bw (wrap64 (aT + 1)))=some (r1,r2,r3,r4):=by rw [if_pos rfl] at H;exact H
      clear H
      have H:=H1
      clear H1
      have H':=ah.mk H
      clear H
      obtain ⟨oZ,IB⟩:=dx.out
      have pX:=dI oZ
      have pY:=dB oZ
      have pZ:=aa oZ 0
      have p8:=aa oZ 1
      clear oZ IB
      have p6: 0≤(aT:Int):=of_decide_eq_true cL
      have q6:aT < (bw.size:Int):=of_decide_eq_true cL
      have hx6:=gI bw aT
      replace p6:=eq_true p6
      replace q6:=eq_true q6
      go_wp2_with (first|(go_at_call 120;(with_reducible refine (iF.calls (bt bw aT) true _ A7.out).mono ?_);rintro e w' ⟨rfl,⟨nd,rfl⟩⟩;(try first|exact ⟨rfl,_,World.drewN_drewN _ _ _⟩|exact ⟨rfl,_,Eq.trans (World.drewN_drewN _ _ _) (congrArg (World.drewN _) (Nat.add_assoc _ _ _))⟩)))
      repeat (go_quiet (first|(go_at_call 120;(with_reducible refine (iF.calls (bt bw aT) true _ A7.out).mono ?_);rintro e w' ⟨rfl,⟨nd,rfl⟩⟩;(try first|exact ⟨rfl,_,World.drewN_drewN _ _ _⟩|exact ⟨rfl,_,Eq.trans (World.drewN_drewN _ _ _) (congrArg (World.drewN _) (Nat.add_assoc _ _ _))⟩)));try go_wp2_with (first|(go_at_call 120;(with_reducible refine (iF.calls (bt bw aT) true _ A7.out).mono ?_);rintro e w' ⟨rfl,⟨nd,rfl⟩⟩;(try first|exact ⟨rfl,_,World.drewN_drewN _ _ _⟩|exact ⟨rfl,_,Eq.trans (World.drewN_drewN _ _ _) (congrArg (World.drewN _) (Nat.add_assoc _ _ _))⟩))))
      go_roundg k1
      case measure=>have:=uz.out;omega
      case rel=>exact ⟨(bw),(wrap64 (aT + 1)),H',⟨kX⟩,⟨gU⟩,⟨ez⟩,⟨gT⟩⟩
     ·replace c8:=Bool.eq_false_iff.mpr c8
      subst c8
      have H1:(if 0≤cK then (if cK≤aT then (if aT≤(bw.size:Int) then (some (bw.extract (cK:Int).toNat (aT:Int).toNat,decide (aT > cK),bw,aT)) else (none)) else (none)) else (none))=some (r1,r2,r3,r4):=by rw [if_neg (show ¬ (false=true) by decide)] at H;exact H
      clear H
      have H:=H1
      clear H1
      by_cases c10: 0≤cK
      ·rw [if_pos c10] at H
       have qy:=eq_true c10
       have CD:decide (0≤cK)=true:=decide_eq_true c10
       clear c10
       by_cases c11:cK≤aT
       ·rw [if_pos c11] at H
        have zg:=eq_true c11
        have LH:decide (cK≤aT)=true:=decide_eq_true c11
        clear c11
        by_cases c12:aT≤(bw.size:Int)
        ·rw [if_pos c12] at H
         have wQ:=eq_true c12
         have CE:decide (aT≤(bw.size:Int))=true:=decide_eq_true c12
         clear c12
         simp only [Option.some.injEq,Prod.mk.injEq] at H
         obtain ⟨rfl,rfl,rfl,rfl⟩:=H
         obtain ⟨qz,LI⟩:=dx.out
         have qi:=dI qz
         have qj:=dB qz
         have qm:=aa qz 0
         have qo:=aa qz 1
         clear qz LI
         have p6: 0≤(aT:Int):=of_decide_eq_true cL
         have q6:aT < (bw.size:Int):=of_decide_eq_true cL
         have hx6:=gI bw aT
         replace p6:=eq_true p6
         replace q6:=eq_true q6
         go_wp2_with (first|(go_at_call 120;(with_reducible refine (iF.calls (bt bw aT) false _ A7.out).mono ?_);rintro e w' ⟨rfl,⟨nd,rfl⟩⟩;(try first|exact ⟨rfl,_,World.drewN_drewN _ _ _⟩|exact ⟨rfl,_,Eq.trans (World.drewN_drewN _ _ _) (congrArg (World.drewN _) (Nat.add_assoc _ _ _))⟩)))
         repeat (go_quiet (first|(go_at_call 120;(with_reducible refine (iF.calls (bt bw aT) false _ A7.out).mono ?_);rintro e w' ⟨rfl,⟨nd,rfl⟩⟩;(try first|exact ⟨rfl,_,World.drewN_drewN _ _ _⟩|exact ⟨rfl,_,Eq.trans (World.drewN_drewN _ _ _) (congrArg (World.drewN _) (Nat.add_assoc _ _ _))⟩)));try go_wp2_with (first|(go_at_call 120;(with_reducible refine (iF.calls (bt bw aT) false _ A7.out).mono ?_);rintro e w' ⟨rfl,⟨nd,rfl⟩⟩;(try first|exact ⟨rfl,_,World.drewN_drewN _ _ _⟩|exact ⟨rfl,_,Eq.trans (World.drewN_drewN _ _ _) (congrArg (World.drewN _) (Nat.add_assoc _ _ _))⟩))))
         go_ret2
         exact ⟨cO,gU,gT,ez⟩
        ·rw [if_neg c12] at H
         exact absurd H aV
       ·rw [if_neg c11] at H
        exact absurd H aV
      ·rw [if_neg c10] at H
       exact absurd H aV
    ·rw [if_neg c5] at H
     exact absurd H aV
   ·rw [if_neg c4] at H
    have oC:decide (aT < (bw.size:Int))=false:=decide_eq_false c4
    clear c4
    by_cases c14: 0≤cK
    ·rw [if_pos c14] at H
     have LJ:=eq_true c14
     have LK:decide (0≤cK)=true:=decide_eq_true c14
     clear c14
     by_cases c15:cK≤aT
     ·rw [if_pos c15] at H
      have E0:=eq_true c15
      have Qg:decide (cK≤aT)=true:=decide_eq_true c15
      clear c15
      by_cases c16:aT≤(bw.size:Int)
      ·rw [if_pos c16] at H
       have ZA:=eq_true c16
       have ZB:decide (aT≤(bw.size:Int))=true:=decide_eq_true c16
       clear c16
       simp only [Option.some.injEq,Prod.mk.injEq] at H
       obtain ⟨rfl,rfl,rfl,rfl⟩:=H
       obtain ⟨qA,LL⟩:=dx.out
       have sH:=dI qA
       have sI:=dB qA
       have sJ:=aa qA 0
       have sK:=aa qA 1
       clear qA LL
       go_wp2
       repeat (go_quiet (fail);try go_wp2)
       go_ret2
       exact ⟨cO,gU,gT,ez⟩
      ·rw [if_neg c16] at H
       exact absurd H aV
     ·rw [if_neg c15] at H
      exact absurd H aV
    ·rw [if_neg c14] at H
     exact absurd H aV
def fF.f (k:Nat) (eP:ByteArray) (cK:Int):Option (Bool×ByteArray×Int):=(bq.f k eP cK).bind fun E9=>(some (E9.2.1,E9.2.2.1,E9.2.2.2))
theorem fF.mono:∀ a0 a1 k,cH (fF.f k a0 a1) (fF.f (k + 1) a0 a1):=by
 intro a0 a1 k
 unfold fF.f
 repeat' first
  |(with_reducible exact bq.mono _ _ _)
  |(with_reducible exact cH.refl _)
  |(with_reducible exact cH.none _)
  |(with_reducible refine cH.ite ?_ ?_)
  |(with_reducible refine cH.bind ?_ (fun _ =>?_))
  |refine cH.ite ?_ ?_
  |refine cH.bind ?_ (fun _ =>?_)
theorem fF.calls (k:Nat) (g:Nat) (eP:ByteArray) (cK:Int) (r1:Bool) (r2:ByteArray) (r3:Int) (w0 w:World) (hI:ay w0 w g eP cK) (hB:Below w0.heap.size w0 w) (h:fF.f k eP cK=some (r1,r2,r3)):
 Calls Tryz.prog 68 #[.pointer (some ⟨g,0,none⟩)] w fun e w'=>e= .returned (.bool r1)∧ay w0 w' g r2 r3∧Below w0.heap.size w0 w'∧br w w' g none:=by
 have dx:=ah.mk hI
 have HK:=ah.mk (br.refl w g none)
 have HL:=ah.mk hB.size
 clear hI
 have TQ:=ah.mk hB.size
 have HB:=ah.mk hB
 clear hB
 have H:((bq.f k eP cK).bind fun E9=>(some (E9.2.1,E9.2.2.1,E9.2.2.2)))=some (r1,r2,r3):=h
 clear h
 replace H:=Option.bind_eq_some_iff.mp H
 obtain ⟨⟨t153,t154,t155,t156⟩,nr,H⟩:=H
 replace H:(some (t154,t155,t156))=some (r1,r2,r3):=H
 have A2:=ah.mk nr
 clear nr
 simp only [Option.some.injEq,Prod.mk.injEq] at H
 obtain ⟨rfl,rfl,rfl⟩:=H
 go_enter Tryz.func68,Tryz.ntmps68
 go_wp2_with (first|((with_reducible refine aU (f:=119) rfl ?_);refine cB (some 7) rfl rfl Tryz.func119 av rfl #[.pointer (some ⟨g,0,none⟩),.func (.func 120) #[] #[]] rfl cX ?_;(with_reducible refine (bq.calls k g eP cK t153 t154 t155 t156 w0 _ ?aW ?bY A2.out).mono ?_);(case aW=>repeat (first|(with_reducible first|exact dx.out|apply ay.alloc|apply ay.drewN|apply ay.drew|apply ay.fH|apply ay.fD)|exact dx.out));(case bY=>repeat (first|(with_reducible first|exact HB.out|apply aG|apply aM|apply bn|refine bh ?_ (ay.ge dx.out))|exact HB.out));rintro e w3 ⟨rfl,hi,hb,hk⟩;refine ⟨_,rfl,?_⟩;have bL:=ah.mk (br.trans ez hk (.inl rfl));have bS:=ah.mk (hb);have cG:=ah.mk (hi);clear HK;clear HB;clear dx;have HK:=bL;have HB:=bS;have dx:=cG;clear bL bS cG;(try clear hb);(try clear hb2);(try clear hk);(try clear hi)))
 go_ret
 exact ⟨cO,gU,gT,ez⟩
def cS.f (eP:ByteArray) (cK:Int):Option (Int×ByteArray×Int):=if cK < (eP.size:Int) then (if 0≤cK then (some (bt eP cK,eP,cK)) else (none)) else (some (0,eP,cK))
theorem cS.calls (g:Nat) (eP:ByteArray) (cK:Int) (r1:Int) (r2:ByteArray) (r3:Int) (w0 w:World) (hI:ay w0 w g eP cK) (hB:Below w0.heap.size w0 w) (h:cS.f eP cK=some (r1,r2,r3)):
 Calls Tryz.prog 115 #[.pointer (some ⟨g,0,none⟩)] w fun e w'=>e= .returned (.int .u8 r1)∧ay w0 w' g r2 r3∧Below w0.heap.size w0 w'∧br w w' g none:=by
 have dx:=ah.mk hI
 have HK:=ah.mk (br.refl w g none)
 have HL:=ah.mk hB.size
 clear hI
 have TQ:=ah.mk hB.size
 have HB:=ah.mk hB
 clear hB
 have H:(if cK < (eP.size:Int) then (if 0≤cK then (some (bt eP cK,eP,cK)) else (none)) else (some (0,eP,cK)))=some (r1,r2,r3):=h
 clear h
 by_cases c2:cK < (eP.size:Int)
 ·rw [if_pos c2] at H
  have BR:decide (cK < (eP.size:Int))=true:=decide_eq_true c2
  clear c2
  by_cases c3: 0≤cK
  ·rw [if_pos c3] at H
   have pW:decide (0≤cK)=true:=decide_eq_true c3
   clear c3
   simp only [Option.some.injEq,Prod.mk.injEq] at H
   obtain ⟨rfl,rfl,rfl⟩:=H
   obtain ⟨UU,aim⟩:=dx.out
   have wW:=dI UU
   have wX:=dB UU
   have wY:=aa UU 0
   have wZ:=aa UU 1
   clear UU aim
   have p4: 0≤(cK:Int):=of_decide_eq_true cL
   have q4:cK < (eP.size:Int):=of_decide_eq_true cL
   have hx4:=gI eP cK
   replace p4:=eq_true p4
   replace q4:=eq_true q4
   go_enter Tryz.func115,Tryz.ntmps115
   go_wp2
   repeat (go_quiet (fail);try go_wp2)
   go_ret
   exact ⟨cO,gU,gT,ez⟩
  ·rw [if_neg c3] at H
   exact absurd H aV
 ·rw [if_neg c2] at H
  have BR:decide (cK < (eP.size:Int))=false:=decide_eq_false c2
  clear c2
  simp only [Option.some.injEq,Prod.mk.injEq] at H
  obtain ⟨rfl,rfl,rfl⟩:=H
  obtain ⟨UW,ain⟩:=dx.out
  have UX:=dI UW
  have UY:=dB UW
  have UZ:=aa UW 0
  have U0:=aa UW 1
  clear UW ain
  go_enter Tryz.func115,Tryz.ntmps115
  go_wp2
  repeat (go_quiet (fail);try go_wp2)
  go_ret
  exact ⟨cO,gU,gT,ez⟩
def aH.l0:Nat→Int→ByteArray→Int→Option (Bool×ByteArray×Int)
 | 0,_,_,_ =>none
 |k + 1,x1,gM,fM=>(fF.f k gM fM).bind fun L4=>(if L4.1=true then ((bf.f L4.2.1 L4.2.2 x1).bind fun qK=>(if qK.1=true then (aH.l0 k x1 qK.2.1 qK.2.2) else (some (true,qK.2.1,qK.2.2)))) else (some (false,L4.2.1,L4.2.2)))
def aH.f (k:Nat) (eP:ByteArray) (cK:Int) (a1:Int):Option (Bool×ByteArray×Int):=aH.l0 k a1 eP cK
theorem aH.fJ:∀ k,(∀ y0 y1 y2,cH (aH.l0 k y0 y1 y2) (aH.l0 (k + 1) y0 y1 y2))
 | 0=>fun _ _ _ r h=>by simp [aH.l0] at h
 |k + 1=>by
  have nP:=aH.fJ k
  ·intro y0 y1 y2
   unfold aH.l0
   repeat' first
   |(with_reducible exact nP _ _ _)
   |(with_reducible exact fF.mono _ _ _)
   |(with_reducible exact cH.refl _)
   |(with_reducible exact cH.none _)
   |(with_reducible refine cH.ite ?_ ?_)
   |(with_reducible refine cH.bind ?_ (fun _ =>?_))
   |refine cH.ite ?_ ?_
   |refine cH.bind ?_ (fun _ =>?_)
theorem aH.mono:∀ a0 a1 a2 k,cH (aH.f k a0 a1 a2) (aH.f (k + 1) a0 a1 a2):=by
 intro a0 a1 a2 k
 have nP:=aH.fJ k
 unfold aH.f
 repeat' first
  |(with_reducible exact nP _ _ _)
  |(with_reducible exact fF.mono _ _ _)
  |(with_reducible exact cH.refl _)
  |(with_reducible exact cH.none _)
  |(with_reducible refine cH.ite ?_ ?_)
  |(with_reducible refine cH.bind ?_ (fun _ =>?_))
  |refine cH.ite ?_ ?_
  |refine cH.bind ?_ (fun _ =>?_)
theorem aH.calls (k:Nat) (g:Nat) (eP:ByteArray) (cK:Int) (a1:Int) (r1:Bool) (r2:ByteArray) (r3:Int) (w0 w:World) (hI:ay w0 w g eP cK) (hB:Below w0.heap.size w0 w) (h:aH.f k eP cK a1=some (r1,r2,r3)):
 Calls Tryz.prog 67 #[.pointer (some ⟨g,0,none⟩),.int .u8 a1,.func (.func 68) #[.pointer (some ⟨g,0,none⟩)] #[]] w fun e w'=>e= .returned (.bool r1)∧ay w0 w' g r2 r3∧Below w0.heap.size w0 w'∧br w w' g none:=by
 have dx:=ah.mk hI
 have HK:=ah.mk (br.refl w g none)
 have HL:=ah.mk hB.size
 clear hI
 have TQ:=ah.mk hB.size
 have HB:=ah.mk hB
 clear hB
 have H:(aH.l0 k a1 eP cK)=some (r1,r2,r3):=h
 clear h
 have H':=ah.mk H
 clear H
 go_enter Tryz.func67,Tryz.ntmps67
 go_wp2
 go_loopg [] k (fun kq w'=>∃ (bw:ByteArray) (aT:Int),ah (aH.l0 kq a1 bw aT=some (r1,r2,r3))∧ah (kq≤k)∧ah (ay w0 w' g bw aT)∧ah (br w w' g none)∧ah (Below w0.heap.size w0 w'))
 case atStart=>exact ⟨(eP),(cK),H',⟨Nat.le_refl _⟩,⟨gU⟩,⟨ez⟩,⟨gT⟩⟩
 case round=>
  clear H'
  try clear p2
  obtain ⟨bw,aT,HA,uz,dx,HK,HB⟩:=hrel
  cases gk with
  |zero=>exact absurd HA.out (by simp [aH.l0])
  |succ k1=>
   have H:=HA.out
   clear HA
   simp only [aH.l0] at H
   replace H:=Option.bind_eq_some_iff.mp H
   obtain ⟨⟨t157,t158,t159⟩,CC,H⟩:=H
   replace H:(if t157=true then ((bf.f t158 t159 a1).bind fun qK=>(if qK.1=true then (aH.l0 k1 a1 qK.2.1 qK.2.2) else (some (true,qK.2.1,qK.2.2)))) else (some (false,t158,t159)))=some (r1,r2,r3):=H
   have A4:=ah.mk CC
   clear CC
   by_cases c5:t157=true
   ·subst c5
    have H1:((bf.f t158 t159 a1).bind fun qK=>(if qK.1=true then (aH.l0 k1 a1 qK.2.1 qK.2.2) else (some (true,qK.2.1,qK.2.2))))=some (r1,r2,r3):=by rw [if_pos rfl] at H;exact H
    clear H
    have H:=H1
    clear H1
    replace H:=Option.bind_eq_some_iff.mp H
    obtain ⟨⟨t160,t161,t162⟩,wK,H⟩:=H
    replace H:(if t160=true then (aH.l0 k1 a1 t161 t162) else (some (true,t161,t162)))=some (r1,r2,r3):=H
    have A6:=ah.mk wK
    clear wK
    by_cases c7:t160=true
    ·subst c7
     have H1:(aH.l0 k1 a1 t161 t162)=some (r1,r2,r3):=by rw [if_pos rfl] at H;exact H
     clear H
     have H:=H1
     clear H1
     have H':=ah.mk H
     clear H
     go_wp2_with (first|(go_at_call 68;(with_reducible refine (fF.calls k1 g bw aT true t158 t159 w0 _ ?aW ?bY A4.out).mono ?_);(case aW=>repeat (first|(with_reducible first|exact dx.out|apply ay.alloc|apply ay.drewN|apply ay.drew|apply ay.fH|apply ay.fD)|exact dx.out));(case bY=>repeat (first|(with_reducible first|exact HB.out|apply aG|apply aM|apply bn|refine bh ?_ (ay.ge dx.out))|exact HB.out));rintro e w8 ⟨rfl,hi,hb,hk⟩;have bL:=ah.mk (br.trans ez hk (.inl rfl));have bS:=ah.mk (hb);have cG:=ah.mk (hi);clear HK;clear HB;clear dx;have HK:=bL;have HB:=bS;have dx:=cG;clear bL bS cG;(try clear hb);(try clear hb2);(try clear hk);(try clear hi))|((with_reducible refine aU (f:=56) rfl ?_);refine cB (some 11) rfl rfl Tryz.func56 av rfl #[.pointer (some ⟨g,0,none⟩),.int .u8 a1] rfl cX ?_;(with_reducible refine (bf.calls g t158 t159 a1 true t161 t162 w0 _ ?aW ?bY A6.out).mono ?_);(case aW=>repeat (first|(with_reducible first|exact dx.out|apply ay.alloc|apply ay.drewN|apply ay.drew|apply ay.fH|apply ay.fD)|exact dx.out));(case bY=>repeat (first|(with_reducible first|exact HB.out|apply aG|apply aM|apply bn|refine bh ?_ (ay.ge dx.out))|exact HB.out));rintro e w9 ⟨rfl,hi,hb,hk⟩;refine ⟨_,rfl,?_⟩;have bL:=ah.mk (br.trans ez hk (.inl rfl));have bS:=ah.mk (hb);have cG:=ah.mk (hi);clear HK;clear HB;clear dx;have HK:=bL;have HB:=bS;have dx:=cG;clear bL bS cG;(try clear hb);(try clear hb2);(try clear hk);(try clear hi)))
     go_roundg k1
     case measure=>have:=uz.out;omega
     case rel=>exact ⟨(t161),(t162),H',⟨kX⟩,⟨gU⟩,⟨ez⟩,⟨gT⟩⟩
    ·replace c7:=Bool.eq_false_iff.mpr c7
     subst c7
     have H1:(some (true,t161,t162))=some (r1,r2,r3):=by rw [if_neg (show ¬ (false=true) by decide)] at H;exact H
     clear H
     have H:=H1
     clear H1
     simp only [Option.some.injEq,Prod.mk.injEq] at H
     obtain ⟨rfl,rfl,rfl⟩:=H
     go_wp2_with (first|(go_at_call 68;(with_reducible refine (fF.calls k1 g bw aT true t158 t159 w0 _ ?aW ?bY A4.out).mono ?_);(case aW=>repeat (first|(with_reducible first|exact dx.out|apply ay.alloc|apply ay.drewN|apply ay.drew|apply ay.fH|apply ay.fD)|exact dx.out));(case bY=>repeat (first|(with_reducible first|exact HB.out|apply aG|apply aM|apply bn|refine bh ?_ (ay.ge dx.out))|exact HB.out));rintro e sw ⟨rfl,hi,hb,hk⟩;have bL:=ah.mk (br.trans ez hk (.inl rfl));have bS:=ah.mk (hb);have cG:=ah.mk (hi);clear HK;clear HB;clear dx;have HK:=bL;have HB:=bS;have dx:=cG;clear bL bS cG;(try clear hb);(try clear hb2);(try clear hk);(try clear hi))|((with_reducible refine aU (f:=56) rfl ?_);refine cB (some 11) rfl rfl Tryz.func56 av rfl #[.pointer (some ⟨g,0,none⟩),.int .u8 a1] rfl cX ?_;(with_reducible refine (bf.calls g t158 t159 a1 false t161 t162 w0 _ ?aW ?bY A6.out).mono ?_);(case aW=>repeat (first|(with_reducible first|exact dx.out|apply ay.alloc|apply ay.drewN|apply ay.drew|apply ay.fH|apply ay.fD)|exact dx.out));(case bY=>repeat (first|(with_reducible first|exact HB.out|apply aG|apply aM|apply bn|refine bh ?_ (ay.ge dx.out))|exact HB.out));rintro e w11 ⟨rfl,hi,hb,hk⟩;refine ⟨_,rfl,?_⟩;have bL:=ah.mk (br.trans ez hk (.inl rfl));have bS:=ah.mk (hb);have cG:=ah.mk (hi);clear HK;clear HB;clear dx;have HK:=bL;have HB:=bS;have dx:=cG;clear bL bS cG;(try clear hb);(try clear hb2);(try clear hk);(try clear hi)))
     go_ret
     exact ⟨cO,gU,gT,ez⟩
   ·replace c5:=Bool.eq_false_iff.mpr c5
    subst c5
    have H1:(some (false,t158,t159))=some (r1,r2,r3):=by rw [if_neg (show ¬ (false=true) by decide)] at H;exact H
    clear H
    have H:=H1
    clear H1
    simp only [Option.some.injEq,Prod.mk.injEq] at H
    obtain ⟨rfl,rfl,rfl⟩:=H
    go_wp2_with (first|(go_at_call 68;(with_reducible refine (fF.calls k1 g bw aT false t158 t159 w0 _ ?aW ?bY A4.out).mono ?_);(case aW=>repeat (first|(with_reducible first|exact dx.out|apply ay.alloc|apply ay.drewN|apply ay.drew|apply ay.fH|apply ay.fD)|exact dx.out));(case bY=>repeat (first|(with_reducible first|exact HB.out|apply aG|apply aM|apply bn|refine bh ?_ (ay.ge dx.out))|exact HB.out));rintro e SJ ⟨rfl,hi,hb,hk⟩;have bL:=ah.mk (br.trans ez hk (.inl rfl));have bS:=ah.mk (hb);have cG:=ah.mk (hi);clear HK;clear HB;clear dx;have HK:=bL;have HB:=bS;have dx:=cG;clear bL bS cG;(try clear hb);(try clear hb2);(try clear hk);(try clear hi)))
    go_ret
    exact ⟨cO,gU,gT,ez⟩
end Go.Proofs.YtokpnfljjjjikaaGreatDoor.nK
