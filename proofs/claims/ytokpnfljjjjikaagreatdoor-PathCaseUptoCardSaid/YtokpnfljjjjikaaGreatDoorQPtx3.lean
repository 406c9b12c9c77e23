import Derived.Test.YtokpnfljjjjikaaGreatDoorQPtx2
set_option maxHeartbeats 8000000
set_option maxRecDepth 100000
namespace Go.Proofs.YtokpnfljjjjikaaGreatDoor.lO
open Go.RowKit Go.Proofs.YtokpnfljjjjikaaGreatDoor.sL Go.Proofs.aj.bw Go.Proofs.aj.eU Go.Proofs.aj.cj
attribute [local go_sem] gL gM iL iM fZ gf gP gQ
set_option linter.unusedVariables false
set_option linter.unusedSimpArgs false
def iF.f (a0:Int):Option (Bool):=if a0≥48 then (some (decide (a0≤57))) else (some false)
theorem iF.calls (a0:Int) (r:Bool) (w:World) (h:iF.f a0=some r):
 Calls Tryz.prog 158 #[.int .u8 a0] w fun e w'=>e= .returned (.bool r)∧fV w w':=by
 have H:(if a0≥48 then (some (decide (a0≤57))) else (some false))=some r:=h
 clear h
 by_cases c2:a0≥48
 ·rw [if_pos c2] at H
  have zy:decide (48≤a0)=true:=decide_eq_true c2
  clear c2
  obtain rfl:=Option.some.inj H
  go_enter Tryz.func158,Tryz.ntmps158
  go_wp2
  go_ret
  exact ⟨dG,iw⟩
 ·rw [if_neg c2] at H
  have zy:decide (48≤a0)=false:=decide_eq_false c2
  clear c2
  obtain rfl:=Option.some.inj H
  go_enter Tryz.func158,Tryz.ntmps158
  go_wp2
  go_ret
  exact ⟨dG,iw⟩
def cS.f (a0:Int):Option (Bool):=(gi.f a0).bind fun t116=>(if t116=true then (some true) else ((iF.f a0).bind fun t117=>(if t117=true then (some true) else (some (a0 == 45)))))
theorem cS.calls (a0:Int) (r:Bool) (w:World) (h:cS.f a0=some r):
 Calls Tryz.prog 168 #[.int .u8 a0] w fun e w'=>e= .returned (.bool r)∧fV w w':=by
 have H:((gi.f a0).bind fun t116=>(if t116=true then (some true) else ((iF.f a0).bind fun t117=>(if t117=true then (some true) else (some (a0 == 45))))))=some r:=h
 clear h
 obtain ⟨t116,A2,H⟩:=bd_ H
 by_cases c3:t116=true
 ·subst c3
  rw [if_pos rfl] at H
  obtain rfl:=Option.some.inj H
  go_enter Tryz.func168,Tryz.ntmps168
  go_wp2_with (first|((with_reducible refine aU (f:=157) rfl ?_);refine bY (some 4) rfl rfl Tryz.func157 ay rfl #[.int .u8 a0] rfl cr ?_;(with_reducible refine (gi.calls a0 true _ A2.out).mono ?_);rintro e w' ⟨rfl,⟨nd,rfl⟩⟩;refine ⟨_,rfl,?_⟩))
  go_ret
  exact ⟨dG,iw⟩
 ·replace c3:=Bool.eq_false_iff.mpr c3
  subst c3
  rw [if_neg (show ¬ (false=true) by decide)] at H
  obtain ⟨t117,A4,H⟩:=bd_ H
  by_cases c5:t117=true
  ·subst c5
   rw [if_pos rfl] at H
   obtain rfl:=Option.some.inj H
   go_enter Tryz.func168,Tryz.ntmps168
   go_wp2_with (first|((with_reducible refine aU (f:=157) rfl ?_);refine bY (some 4) rfl rfl Tryz.func157 ay rfl #[.int .u8 a0] rfl cr ?_;(with_reducible refine (gi.calls a0 false _ A2.out).mono ?_);rintro e w' ⟨rfl,⟨nd,rfl⟩⟩;refine ⟨_,rfl,?_⟩)|(go_at_call 158;(with_reducible refine (iF.calls a0 true _ A4.out).mono ?_);rintro e w' ⟨rfl,⟨nd,rfl⟩⟩))
   go_ret
   exact ⟨dG,iw⟩
  ·replace c5:=Bool.eq_false_iff.mpr c5
   subst c5
   rw [if_neg (show ¬ (false=true) by decide)] at H
   obtain rfl:=Option.some.inj H
   go_enter Tryz.func168,Tryz.ntmps168
   go_wp2_with (first|((with_reducible refine aU (f:=157) rfl ?_);refine bY (some 4) rfl rfl Tryz.func157 ay rfl #[.int .u8 a0] rfl cr ?_;(with_reducible refine (gi.calls a0 false _ A2.out).mono ?_);rintro e w' ⟨rfl,⟨nd,rfl⟩⟩;refine ⟨_,rfl,?_⟩)|(go_at_call 158;(with_reducible refine (iF.calls a0 false _ A4.out).mono ?_);rintro e w' ⟨rfl,⟨nd,rfl⟩⟩))
   go_ret
   exact ⟨dG,iw⟩
def aD.l0:Nat→Int→ByteArray→Int→Option (ByteArray×Bool×ByteArray×Int)
 | 0,_,_,_ =>none
 |k + 1,x6,eO,dM=>if dM < (eO.size:Int) then (if 0≤dM then ((cS.f (bt eO dM)).bind fun t118=>(if t118=true then (aD.l0 k x6 eO (wrap64 (dM + 1))) else (if 0≤x6 then (if x6≤dM then (if dM≤(eO.size:Int) then (some (eO.extract (x6:Int).toNat (dM:Int).toNat,decide (dM > x6),eO,dM)) else (none)) else (none)) else (none)))) else (none)) else (if 0≤x6 then (if x6≤dM then (if dM≤(eO.size:Int) then (some (eO.extract (x6:Int).toNat (dM:Int).toNat,decide (dM > x6),eO,dM)) else (none)) else (none)) else (none))
def aD.f (k:Nat) (dm:ByteArray) (cP:Int):Option (ByteArray×Bool×ByteArray×Int):=aD.l0 k cP dm cP
theorem aD.eD:∀ k,(∀ y0 y1 y2,bZ (aD.l0 k y0 y1 y2) (aD.l0 (k + 1) y0 y1 y2))
 | 0=>fun _ _ _ r h=>by simp [aD.l0] at h
 |k + 1=>by
  have iJ:=aD.eD k
  ·intro y0 y1 y2
   unfold aD.l0
   repeat' first
   |(with_reducible first|exact iJ _ _ _|exact bZ.refl _|exact bZ.none _|refine bZ.ite ?_ ?_|refine bZ.bind ?_ (fun _ =>?_))
   |exact iJ _ _ _
   |exact bZ.none _
   |refine bZ.ite ?_ ?_
   |refine bZ.bind ?_ (fun _ =>?_)
theorem aD.mono:∀ a0 a1 k,bZ (aD.f k a0 a1) (aD.f (k + 1) a0 a1):=by
 intro a0 a1 k
 have iJ:=aD.eD k
 unfold aD.f
 repeat' first
  |(with_reducible first|exact iJ _ _ _|exact bZ.refl _|exact bZ.none _|refine bZ.ite ?_ ?_|refine bZ.bind ?_ (fun _ =>?_))
  |exact iJ _ _ _
  |exact bZ.none _
  |refine bZ.ite ?_ ?_
  |refine bZ.bind ?_ (fun _ =>?_)
theorem aD.calls (k:Nat) (g:Nat) (dm:ByteArray) (cP:Int) (r1:ByteArray) (r2:Bool) (r3:ByteArray) (r4:Int) (w0 w:World) (hI:aq w0 w g dm cP) (hB:Below w0.heap.size w0 w) (h:aD.f k dm cP=some (r1,r2,r3,r4)):
 Calls Tryz.prog 119 #[.pointer (some ⟨g,0,none⟩),.func (.func 168) #[] #[]] w fun e w'=>e= .returned (.tuple #[.string r1,.bool r2])∧aq w0 w' g r3 r4∧Below w0.heap.size w0 w'∧bh w w' g none:=by
 have cV:=af.mk hI
 have HK:=af.mk (bh.refl w g none)
 have HL:=af.mk hB.size
 clear hI
 have Hp:=af.mk hB.size
 have HB:=af.mk hB
 clear hB
 have H:(aD.l0 k cP dm cP)=some (r1,r2,r3,r4):=h
 clear h
 have H':=af.mk H
 clear H
 obtain ⟨pH,IW⟩:=cV.out
 have C0:=cH pH
 have C2:=cG pH
 have C3:=aa pH 0
 have C4:=aa pH 1
 clear pH IW
 go_enter Tryz.func119,Tryz.ntmps119
 go_wp2
 repeat (go_quiet (fail);try go_wp2)
 go_loopg [] k (fun kq w'=>∃ (bE:ByteArray) (bz:Int),af (aD.l0 kq cP bE bz=some (r1,r2,r3,r4))∧af (kq≤k)∧af (aq w0 w' g bE bz)∧af (bh w w' g none)∧af (Below w0.heap.size w0 w'))
 case atStart=>exact ⟨(dm),(cP),H',⟨Nat.le_refl _⟩,⟨fk⟩,⟨cZ⟩,⟨eZ⟩⟩
 case round=>
  clear H'
  obtain ⟨bE,bz,HA,sI,cV,HK,HB⟩:=hrel
  cases gk with
  |zero=>exact absurd HA.out (by simp [aD.l0])
  |succ k1=>
   have H:=HA.out
   clear HA
   simp only [aD.l0] at H
   by_cases c4:bz < (bE.size:Int)
   ·rw [if_pos c4] at H
    have nj:=decide_eq_true c4
    clear c4
    obtain ⟨c5,H⟩:=jA H
    have pG:=decide_eq_true c5
    clear c5
    obtain ⟨t118,A7,H⟩:=bd_ H
    by_cases c8:t118=true
    ·subst c8
     rw [if_pos rfl] at H
     have H':=af.mk H
     clear H
     obtain ⟨kD,zx⟩:=cV.out
     have nM:=cH kD
     have nN:=cG kD
     have nO:=aa kD 0
     have nP:=aa kD 1
     clear kD zx
     have p6: 0≤(bz:Int):=of_decide_eq_true cE
     have q6:bz < (bE.size:Int):=of_decide_eq_true cE
     have Qf:=iW bE bz
     replace p6:=eq_true p6
     replace q6:=eq_true q6
     go_wp2_with (first|(go_at_call 168;(with_reducible refine (cS.calls (bt bE bz) true _ A7.out).mono ?_);rintro e w' ⟨rfl,⟨nd,rfl⟩⟩;(try first|exact ⟨rfl,_,World.drewN_drewN _ _ _⟩|exact ⟨rfl,_,Eq.trans (World.drewN_drewN _ _ _) (congrArg (World.drewN _) (Nat.add_assoc _ _ _))⟩)))
     repeat (go_quiet (first|(go_at_call 168;(with_reducible refine (cS.calls (bt bE bz) true _ A7.out).mono ?_);rintro e w' ⟨rfl,⟨nd,rfl⟩⟩;(try first|exact ⟨rfl,_,World.drewN_drewN _ _ _⟩|exact ⟨rfl,_,Eq.trans (World.drewN_drewN _ _ _) (congrArg (World.drewN _) (Nat.add_assoc _ _ _))⟩)));try go_wp2_with (first|(go_at_call 168;(with_reducible refine (cS.calls (bt bE bz) true _ A7.out).mono ?_);rintro e w' ⟨rfl,⟨nd,rfl⟩⟩;(try first|exact ⟨rfl,_,World.drewN_drewN _ _ _⟩|exact ⟨rfl,_,Eq.trans (World.drewN_drewN _ _ _) (congrArg (World.drewN _) (Nat.add_assoc _ _ _))⟩))))
     go_roundg k1
     case measure=>have:=sI.out;omega
     case rel=>exact ⟨(bE),(wrap64 (bz + 1)),H',⟨kV⟩,⟨fk⟩,⟨cZ⟩,⟨eZ⟩⟩
    ·replace c8:=Bool.eq_false_iff.mpr c8
     subst c8
     rw [if_neg (show ¬ (false=true) by decide)] at H
     obtain ⟨c10,H⟩:=jA H
     have AH:=eq_true c10
     have Np:=decide_eq_true c10
     clear c10
     obtain ⟨c11,H⟩:=jA H
     have xL:=eq_true c11
     have EA:=decide_eq_true c11
     clear c11
     obtain ⟨c12,H⟩:=jA H
     have Nq:=eq_true c12
     have Nr:=decide_eq_true c12
     clear c12
     simp only [Option.some.injEq,Prod.mk.injEq] at H
     obtain ⟨rfl,rfl,rfl,rfl⟩:=H
     obtain ⟨lD,AJ⟩:=cV.out
     have rJ:=cH lD
     have rK:=cG lD
     have rL:=aa lD 0
     have rM:=aa lD 1
     clear lD AJ
     have p6: 0≤(bz:Int):=of_decide_eq_true cE
     have q6:bz < (bE.size:Int):=of_decide_eq_true cE
     have Qf:=iW bE bz
     replace p6:=eq_true p6
     replace q6:=eq_true q6
     go_wp2_with (first|(go_at_call 168;(with_reducible refine (cS.calls (bt bE bz) false _ A7.out).mono ?_);rintro e w' ⟨rfl,⟨nd,rfl⟩⟩;(try first|exact ⟨rfl,_,World.drewN_drewN _ _ _⟩|exact ⟨rfl,_,Eq.trans (World.drewN_drewN _ _ _) (congrArg (World.drewN _) (Nat.add_assoc _ _ _))⟩)))
     repeat (go_quiet (first|(go_at_call 168;(with_reducible refine (cS.calls (bt bE bz) false _ A7.out).mono ?_);rintro e w' ⟨rfl,⟨nd,rfl⟩⟩;(try first|exact ⟨rfl,_,World.drewN_drewN _ _ _⟩|exact ⟨rfl,_,Eq.trans (World.drewN_drewN _ _ _) (congrArg (World.drewN _) (Nat.add_assoc _ _ _))⟩)));try go_wp2_with (first|(go_at_call 168;(with_reducible refine (cS.calls (bt bE bz) false _ A7.out).mono ?_);rintro e w' ⟨rfl,⟨nd,rfl⟩⟩;(try first|exact ⟨rfl,_,World.drewN_drewN _ _ _⟩|exact ⟨rfl,_,Eq.trans (World.drewN_drewN _ _ _) (congrArg (World.drewN _) (Nat.add_assoc _ _ _))⟩))))
     go_ret2
     exact ⟨cM,fk,eZ,cZ⟩
   ·rw [if_neg c4] at H
    have nj:=decide_eq_false c4
    clear c4
    obtain ⟨c14,H⟩:=jA H
    have Ns:=eq_true c14
    have Nt:=decide_eq_true c14
    clear c14
    obtain ⟨c15,H⟩:=jA H
    have vI:=eq_true c15
    have vJ:=decide_eq_true c15
    clear c15
    obtain ⟨c16,H⟩:=jA H
    have Nu:=eq_true c16
    have Nv:=decide_eq_true c16
    clear c16
    simp only [Option.some.injEq,Prod.mk.injEq] at H
    obtain ⟨rfl,rfl,rfl,rfl⟩:=H
    obtain ⟨lF,AK⟩:=cV.out
    have EB:=cH lF
    have EC:=cG lF
    have ED:=aa lF 0
    have EE:=aa lF 1
    clear lF AK
    go_wp2
    repeat (go_quiet (fail);try go_wp2)
    go_ret2
    exact ⟨cM,fk,eZ,cZ⟩
def cT.f (k:Nat) (dm:ByteArray) (cP:Int):Option (Bool×ByteArray×Int):=(aD.f k dm cP).bind fun iD=>(if iD.2.1=true then (if 0 < (iD.1.size:Int) then (if (bt iD.1 0)=45 then (some (false,iD.2.2.1,iD.2.2.2)) else (if 0≤(wrap64 ((iD.1.size:Int) - 1)) then (if (wrap64 ((iD.1.size:Int) - 1)) < (iD.1.size:Int) then (some (((bt iD.1 (wrap64 ((iD.1.size:Int) - 1))) != 45),iD.2.2.1,iD.2.2.2)) else (none)) else (none))) else (none)) else (some (false,iD.2.2.1,iD.2.2.2)))
theorem cT.mono:∀ a0 a1 k,bZ (cT.f k a0 a1) (cT.f (k + 1) a0 a1):=by
 intro a0 a1 k
 unfold cT.f
 repeat' first
  |(with_reducible first|exact aD.mono _ _ _|exact bZ.refl _|exact bZ.none _|refine bZ.ite ?_ ?_|refine bZ.bind ?_ (fun _ =>?_))
  |exact aD.mono _ _ _
  |exact bZ.none _
  |refine bZ.ite ?_ ?_
  |refine bZ.bind ?_ (fun _ =>?_)
theorem cT.calls (k:Nat) (g:Nat) (dm:ByteArray) (cP:Int) (r1:Bool) (r2:ByteArray) (r3:Int) (w0 w:World) (hI:aq w0 w g dm cP) (hB:Below w0.heap.size w0 w) (h:cT.f k dm cP=some (r1,r2,r3)):
 Calls Tryz.prog 129 #[.pointer (some ⟨g,0,none⟩)] w fun e w'=>e= .returned (.bool r1)∧aq w0 w' g r2 r3∧Below w0.heap.size w0 w'∧bh w w' g none:=by
 have cV:=af.mk hI
 have HK:=af.mk (bh.refl w g none)
 have HL:=af.mk hB.size
 clear hI
 have Hp:=af.mk hB.size
 have HB:=af.mk hB
 clear hB
 have H:((aD.f k dm cP).bind fun iD=>(if iD.2.1=true then (if 0 < (iD.1.size:Int) then (if (bt iD.1 0)=45 then (some (false,iD.2.2.1,iD.2.2.2)) else (if 0≤(wrap64 ((iD.1.size:Int) - 1)) then (if (wrap64 ((iD.1.size:Int) - 1)) < (iD.1.size:Int) then (some (((bt iD.1 (wrap64 ((iD.1.size:Int) - 1))) != 45),iD.2.2.1,iD.2.2.2)) else (none)) else (none))) else (none)) else (some (false,iD.2.2.1,iD.2.2.2))))=some (r1,r2,r3):=h
 clear h
 obtain ⟨⟨t119,t120,t121,t122⟩,A2,H⟩:=bd_ H
 (try dsimp only at H)
 by_cases c3:t120=true
 ·subst c3
  rw [if_pos rfl] at H
  obtain ⟨c4,H⟩:=jA H
  have nj:=decide_eq_true c4
  have IK:decide (0 < t119.size)=true:=decide_eq_true ak
  clear c4
  by_cases c6:(bt t119 0)=45
  ·rw [if_pos c6] at H
   have qo:=beq_iff_eq.mpr c6
   have CW:=bne_eq_false_iff_eq.mpr c6
   clear c6
   simp only [Option.some.injEq,Prod.mk.injEq] at H
   obtain ⟨rfl,rfl,rfl⟩:=H
   go_enter Tryz.func129,Tryz.ntmps129
   go_wp2_with (first|((with_reducible refine aU (f:=119) rfl ?_);refine bY (some 7) rfl rfl Tryz.func119 ay rfl #[.pointer (some ⟨g,0,none⟩),.func (.func 168) #[] #[]] rfl cr ?_;(with_reducible refine (aD.calls k g dm cP t119 true t121 t122 w0 _ ?aX ?bL A2.out).mono ?_);(case aX=>repeat (first|(with_reducible first|exact cV.out|apply aq.alloc|apply aq.drewN|apply aq.drew|apply aq.dR|apply aq.dQ)|exact cV.out));(case bL=>repeat (first|(with_reducible first|exact HB.out|apply aJ|apply aK|apply aW|refine bn ?_ (aq.ge cV.out))|exact HB.out));rintro e w7 ⟨rfl,hi,hb,hk⟩;refine ⟨_,rfl,?_⟩;replace HK:=af.mk (bh.trans cZ hk (.inl rfl));replace HB:=af.mk (hb);replace cV:=af.mk (hi);(try clear hb);(try clear hk);(try clear hi);have p5: 0≤(0:Int):=ak;have q5: 0 < t119.size:=(by have:(0:Int) < (t119.size:Int):=of_decide_eq_true cE;omega);have hx5:∀ h: 0 < t119.size,((t119[0]'h).toNat:Int)=bt t119 0:=iW t119 0;clear p5;have qi5:(0 < (t119.size:Int))=True:=eq_true (of_decide_eq_true cE);replace q5:=eq_true q5))
   go_ret
   exact ⟨cM,fk,eZ,cZ⟩
  ·rw [if_neg c6] at H
   have qo:=beq_eq_false_iff_ne.mpr c6
   have CW:=bne_iff_ne.mpr c6
   obtain ⟨S7,IX⟩:∃ j_:Int,(wrap64 ((t119.size:Int) - 1))=j_ :=⟨_,rfl⟩
   (first|rw [IX] at H|simp only [IX] at H)
   (try rw [IX] at A2)
   have abJ:(IntKind.i64.wrap ((t119.size:Int) - 1))=S7:=(cm _).trans IX
   obtain ⟨c9,H⟩:=jA H
   have K6:=decide_eq_true c9
   clear c9
   obtain ⟨c10,H⟩:=jA H
   have AH:=decide_eq_true c10
   clear c10
   simp only [Option.some.injEq,Prod.mk.injEq] at H
   obtain ⟨rfl,rfl,rfl⟩:=H
   go_enter Tryz.func129,Tryz.ntmps129
   go_wp2_with (first|((with_reducible refine aU (f:=119) rfl ?_);refine bY (some 7) rfl rfl Tryz.func119 ay rfl #[.pointer (some ⟨g,0,none⟩),.func (.func 168) #[] #[]] rfl cr ?_;(with_reducible refine (aD.calls k g dm cP t119 true t121 t122 w0 _ ?aX ?bL A2.out).mono ?_);(case aX=>repeat (first|(with_reducible first|exact cV.out|apply aq.alloc|apply aq.drewN|apply aq.drew|apply aq.dR|apply aq.dQ)|exact cV.out));(case bL=>repeat (first|(with_reducible first|exact HB.out|apply aJ|apply aK|apply aW|refine bn ?_ (aq.ge cV.out))|exact HB.out));rintro e Hq ⟨rfl,hi,hb,hk⟩;refine ⟨_,rfl,?_⟩;replace HK:=af.mk (bh.trans cZ hk (.inl rfl));replace HB:=af.mk (hb);replace cV:=af.mk (hi);(try clear hb);(try clear hk);(try clear hi);have p5: 0≤(0:Int):=ak;have q5: 0 < t119.size:=(by have:(0:Int) < (t119.size:Int):=of_decide_eq_true cE;omega);have hx5:∀ h: 0 < t119.size,((t119[0]'h).toNat:Int)=bt t119 0:=iW t119 0;clear p5;have qi5:(0 < (t119.size:Int))=True:=eq_true (of_decide_eq_true cE);replace q5:=eq_true q5;have p11: 0≤((S7):Int):=of_decide_eq_true cE;have q11:(S7) < (t119.size:Int):=of_decide_eq_true cE;have aee:=iW t119 (S7);replace p11:=eq_true p11;replace q11:=eq_true q11))
   go_ret
   exact ⟨by first|rfl|(simp [jW,jX]<;>rfl)|(simp only [← IX];first|rfl|(simp [jW,jX]<;>rfl))|(simp [*,jW,jX]<;>rfl),fk,eZ,cZ⟩
 ·replace c3:=Bool.eq_false_iff.mpr c3
  subst c3
  rw [if_neg (show ¬ (false=true) by decide)] at H
  simp only [Option.some.injEq,Prod.mk.injEq] at H
  obtain ⟨rfl,rfl,rfl⟩:=H
  go_enter Tryz.func129,Tryz.ntmps129
  go_wp2_with (first|((with_reducible refine aU (f:=119) rfl ?_);refine bY (some 7) rfl rfl Tryz.func119 ay rfl #[.pointer (some ⟨g,0,none⟩),.func (.func 168) #[] #[]] rfl cr ?_;(with_reducible refine (aD.calls k g dm cP t119 false t121 t122 w0 _ ?aX ?bL A2.out).mono ?_);(case aX=>repeat (first|(with_reducible first|exact cV.out|apply aq.alloc|apply aq.drewN|apply aq.drew|apply aq.dR|apply aq.dQ)|exact cV.out));(case bL=>repeat (first|(with_reducible first|exact HB.out|apply aJ|apply aK|apply aW|refine bn ?_ (aq.ge cV.out))|exact HB.out));rintro e CX ⟨rfl,hi,hb,hk⟩;refine ⟨_,rfl,?_⟩;replace HK:=af.mk (bh.trans cZ hk (.inl rfl));replace HB:=af.mk (hb);replace cV:=af.mk (hi);(try clear hb);(try clear hk);(try clear hi)))
  go_ret
  exact ⟨cM,fk,eZ,cZ⟩
def aI.l0:Nat→Int→ByteArray→Int→Option (Bool×ByteArray×Int)
 | 0,_,_,_ =>none
 |k + 1,x1,eO,dM=>(cT.f k eO dM).bind fun AL=>(if AL.1=true then ((bu.f AL.2.1 AL.2.2 x1).bind fun AO=>(if AO.1=true then (aI.l0 k x1 AO.2.1 AO.2.2) else (some (true,AO.2.1,AO.2.2)))) else (some (false,AL.2.1,AL.2.2)))
def aI.f (k:Nat) (dm:ByteArray) (cP:Int) (a1:Int):Option (Bool×ByteArray×Int):=aI.l0 k a1 dm cP
theorem aI.eD:∀ k,(∀ y0 y1 y2,bZ (aI.l0 k y0 y1 y2) (aI.l0 (k + 1) y0 y1 y2))
 | 0=>fun _ _ _ r h=>by simp [aI.l0] at h
 |k + 1=>by
  have iJ:=aI.eD k
  ·intro y0 y1 y2
   unfold aI.l0
   repeat' first
   |(with_reducible first|exact iJ _ _ _|exact cT.mono _ _ _|exact bZ.refl _|exact bZ.none _|refine bZ.ite ?_ ?_|refine bZ.bind ?_ (fun _ =>?_))
   |exact iJ _ _ _
   |exact cT.mono _ _ _
   |exact bZ.none _
   |refine bZ.ite ?_ ?_
   |refine bZ.bind ?_ (fun _ =>?_)
theorem aI.mono:∀ a0 a1 a2 k,bZ (aI.f k a0 a1 a2) (aI.f (k + 1) a0 a1 a2):=by
 intro a0 a1 a2 k
 have iJ:=aI.eD k
 unfold aI.f
 repeat' first
  |(with_reducible first|exact iJ _ _ _|exact cT.mono _ _ _|exact bZ.refl _|exact bZ.none _|refine bZ.ite ?_ ?_|refine bZ.bind ?_ (fun _ =>?_))
  |exact iJ _ _ _
  |exact cT.mono _ _ _
  |exact bZ.none _
  |refine bZ.ite ?_ ?_
  |refine bZ.bind ?_ (fun _ =>?_)
theorem aI.calls (k:Nat) (g:Nat) (dm:ByteArray) (cP:Int) (a1:Int) (r1:Bool) (r2:ByteArray) (r3:Int) (w0 w:World) (hI:aq w0 w g dm cP) (hB:Below w0.heap.size w0 w) (h:aI.f k dm cP a1=some (r1,r2,r3)):
 Calls Tryz.prog 67 #[.pointer (some ⟨g,0,none⟩),.int .u8 a1,.func (.func 129) #[.pointer (some ⟨g,0,none⟩)] #[]] w fun e w'=>e= .returned (.bool r1)∧aq w0 w' g r2 r3∧Below w0.heap.size w0 w'∧bh w w' g none:=by
 have cV:=af.mk hI
 have HK:=af.mk (bh.refl w g none)
 have HL:=af.mk hB.size
 clear hI
 have Hp:=af.mk hB.size
 have HB:=af.mk hB
 clear hB
 have H:(aI.l0 k a1 dm cP)=some (r1,r2,r3):=h
 clear h
 have H':=af.mk H
 clear H
 go_enter Tryz.func67,Tryz.ntmps67
 go_wp2
 go_loopg [] k (fun kq w'=>∃ (bE:ByteArray) (bz:Int),af (aI.l0 kq a1 bE bz=some (r1,r2,r3))∧af (kq≤k)∧af (aq w0 w' g bE bz)∧af (bh w w' g none)∧af (Below w0.heap.size w0 w'))
 case atStart=>exact ⟨(dm),(cP),H',⟨Nat.le_refl _⟩,⟨fk⟩,⟨cZ⟩,⟨eZ⟩⟩
 case round=>
  clear H'
  obtain ⟨bE,bz,HA,sI,cV,HK,HB⟩:=hrel
  cases gk with
  |zero=>exact absurd HA.out (by simp [aI.l0])
  |succ k1=>
   have H:=HA.out
   clear HA
   simp only [aI.l0] at H
   obtain ⟨⟨t123,t124,t125⟩,A4,H⟩:=bd_ H
   (try dsimp only at H)
   by_cases c5:t123=true
   ·subst c5
    rw [if_pos rfl] at H
    obtain ⟨⟨t126,t127,t128⟩,A6,H⟩:=bd_ H
    (try dsimp only at H)
    by_cases c7:t126=true
    ·subst c7
     rw [if_pos rfl] at H
     have H':=af.mk H
     clear H
     go_wp2_with (first|(go_at_call 129;(with_reducible refine (cT.calls k1 g bE bz true t124 t125 w0 _ ?aX ?bL A4.out).mono ?_);(case aX=>repeat (first|(with_reducible first|exact cV.out|apply aq.alloc|apply aq.drewN|apply aq.drew|apply aq.dR|apply aq.dQ)|exact cV.out));(case bL=>repeat (first|(with_reducible first|exact HB.out|apply aJ|apply aK|apply aW|refine bn ?_ (aq.ge cV.out))|exact HB.out));rintro e w8 ⟨rfl,hi,hb,hk⟩;replace HK:=af.mk (bh.trans cZ hk (.inl rfl));replace HB:=af.mk (hb);replace cV:=af.mk (hi);(try clear hb);(try clear hk);(try clear hi))|((with_reducible refine aU (f:=56) rfl ?_);refine bY (some 11) rfl rfl Tryz.func56 ay rfl #[.pointer (some ⟨g,0,none⟩),.int .u8 a1] rfl cr ?_;(with_reducible refine (bu.calls g t124 t125 a1 true t127 t128 w0 _ ?aX ?bL A6.out).mono ?_);(case aX=>repeat (first|(with_reducible first|exact cV.out|apply aq.alloc|apply aq.drewN|apply aq.drew|apply aq.dR|apply aq.dQ)|exact cV.out));(case bL=>repeat (first|(with_reducible first|exact HB.out|apply aJ|apply aK|apply aW|refine bn ?_ (aq.ge cV.out))|exact HB.out));rintro e w9 ⟨rfl,hi,hb,hk⟩;refine ⟨_,rfl,?_⟩;replace HK:=af.mk (bh.trans cZ hk (.inl rfl));replace HB:=af.mk (hb);replace cV:=af.mk (hi);(try clear hb);(try clear hk);(try clear hi)))
     go_roundg k1
     case measure=>have:=sI.out;omega
     case rel=>exact ⟨(t127),(t128),H',⟨kV⟩,⟨fk⟩,⟨cZ⟩,⟨eZ⟩⟩
    ·replace c7:=Bool.eq_false_iff.mpr c7
     subst c7
     rw [if_neg (show ¬ (false=true) by decide)] at H
     simp only [Option.some.injEq,Prod.mk.injEq] at H
     obtain ⟨rfl,rfl,rfl⟩:=H
     go_wp2_with (first|(go_at_call 129;(with_reducible refine (cT.calls k1 g bE bz true t124 t125 w0 _ ?aX ?bL A4.out).mono ?_);(case aX=>repeat (first|(with_reducible first|exact cV.out|apply aq.alloc|apply aq.drewN|apply aq.drew|apply aq.dR|apply aq.dQ)|exact cV.out));(case bL=>repeat (first|(with_reducible first|exact HB.out|apply aJ|apply aK|apply aW|refine bn ?_ (aq.ge cV.out))|exact HB.out));rintro e sB ⟨rfl,hi,hb,hk⟩;replace HK:=af.mk (bh.trans cZ hk (.inl rfl));replace HB:=af.mk (hb);replace cV:=af.mk (hi);(try clear hb);(try clear hk);(try clear hi))|((with_reducible refine aU (f:=56) rfl ?_);refine bY (some 11) rfl rfl Tryz.func56 ay rfl #[.pointer (some ⟨g,0,none⟩),.int .u8 a1] rfl cr ?_;(with_reducible refine (bu.calls g t124 t125 a1 false t127 t128 w0 _ ?aX ?bL A6.out).mono ?_);(case aX=>repeat (first|(with_reducible first|exact cV.out|apply aq.alloc|apply aq.drewN|apply aq.drew|apply aq.dR|apply aq.dQ)|exact cV.out));(case bL=>repeat (first|(with_reducible first|exact HB.out|apply aJ|apply aK|apply aW|refine bn ?_ (aq.ge cV.out))|exact HB.out));rintro e Qd ⟨rfl,hi,hb,hk⟩;refine ⟨_,rfl,?_⟩;replace HK:=af.mk (bh.trans cZ hk (.inl rfl));replace HB:=af.mk (hb);replace cV:=af.mk (hi);(try clear hb);(try clear hk);(try clear hi)))
     go_ret
     exact ⟨cM,fk,eZ,cZ⟩
   ·replace c5:=Bool.eq_false_iff.mpr c5
    subst c5
    rw [if_neg (show ¬ (false=true) by decide)] at H
    simp only [Option.some.injEq,Prod.mk.injEq] at H
    obtain ⟨rfl,rfl,rfl⟩:=H
    go_wp2_with (first|(go_at_call 129;(with_reducible refine (cT.calls k1 g bE bz false t124 t125 w0 _ ?aX ?bL A4.out).mono ?_);(case aX=>repeat (first|(with_reducible first|exact cV.out|apply aq.alloc|apply aq.drewN|apply aq.drew|apply aq.dR|apply aq.dQ)|exact cV.out));(case bL=>repeat (first|(with_reducible first|exact HB.out|apply aJ|apply aK|apply aW|refine bn ?_ (aq.ge cV.out))|exact HB.out));rintro e Hq ⟨rfl,hi,hb,hk⟩;replace HK:=af.mk (bh.trans cZ hk (.inl rfl));replace HB:=af.mk (hb);replace cV:=af.mk (hi);(try clear hb);(try clear hk);(try clear hi)))
    go_ret
    exact ⟨cM,fk,eZ,cZ⟩
end Go.Proofs.YtokpnfljjjjikaaGreatDoor.lO
