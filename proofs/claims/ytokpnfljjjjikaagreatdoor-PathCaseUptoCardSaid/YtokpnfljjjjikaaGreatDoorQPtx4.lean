import Derived.Test.YtokpnfljjjjikaaGreatDoorQPtx3
set_option maxHeartbeats 8000000
set_option maxRecDepth 100000
namespace Go.Proofs.YtokpnfljjjjikaaGreatDoor.lO
open Go.RowKit Go.Proofs.YtokpnfljjjjikaaGreatDoor.sL Go.Proofs.aj.bw Go.Proofs.aj.eU Go.Proofs.aj.cj
attribute [local go_sem] gL gM iL iM fZ gf gP gQ
set_option linter.unusedVariables false
set_option linter.unusedSimpArgs false
def bH.f (k:Nat) (dm:ByteArray) (cP:Int):Option (ByteArray×Bool×ByteArray×Int):=(aI.f k dm cP 46).bind fun lG=>(if 0≤cP then (if cP≤lG.2.2 then (if lG.2.2≤(lG.2.1.size:Int) then ((b7.f (lG.2.1.extract (cP:Int).toNat (lG.2.2:Int).toNat)).bind fun t132=>(some (t132,lG.1,lG.2.1,lG.2.2))) else (none)) else (none)) else (none))
theorem bH.mono:∀ a0 a1 k,bZ (bH.f k a0 a1) (bH.f (k + 1) a0 a1):=by
 intro a0 a1 k
 unfold bH.f
 repeat' first
  |(with_reducible first|exact aI.mono _ _ _ _|exact bZ.refl _|exact bZ.none _|refine bZ.ite ?_ ?_|refine bZ.bind ?_ (fun _ =>?_))
  |exact aI.mono _ _ _ _
  |exact bZ.none _
  |refine bZ.ite ?_ ?_
  |refine bZ.bind ?_ (fun _ =>?_)
def bH.T3:Bool×List (List Nat×List Nat):=(true,[([],[]),([0],[0]),([1],[1]),([2],[2]),([],[]),([],[]),([5],[5]),([6],[6]),([7],[7]),([3,4,8],[3,4,8]),([9],[9]),([],[]),([10,10,0,1,2,3,4,5,6,7,8,9,10],[10]),([11,12,0,1,2,3,4,5,6,7,8,9,10,11,12],[11])])
def bH.B3:List Nat:=[0,1,3,7,0,0,32,96,224,511,1023,0,2047,8191]
theorem bH.aat:l9 .any (opsOf Tryz.f80 3)=bH.T3:=by kernel_rfl
theorem bH.Qg:nA bH.T3.2 bH.B3=true:=by kernel_rfl
theorem bH.calls (k:Nat) (g:Nat) (dm:ByteArray) (cP:Int) (r1:ByteArray) (r2:Bool) (r3:ByteArray) (r4:Int) (w0 w:World) (hI:aq w0 w g dm cP) (hB:Below w0.heap.size w0 w) (h:bH.f k dm cP=some (r1,r2,r3,r4)):
 Calls Tryz.prog 80 #[.pointer (some ⟨g,0,none⟩)] w fun e w'=>e= .returned (.tuple #[.string r1,.bool r2])∧aq w0 w' g r3 r4∧Below w0.heap.size w0 w'∧bh w w' g none:=by
 have cV:=af.mk hI
 have HK:=af.mk (bh.refl w g none)
 have HL:=af.mk hB.size
 clear hI
 have Hp:=af.mk hB.size
 have HB:=af.mk hB
 clear hB
 have H:((aI.f k dm cP 46).bind fun lG=>(if 0≤cP then (if cP≤lG.2.2 then (if lG.2.2≤(lG.2.1.size:Int) then ((b7.f (lG.2.1.extract (cP:Int).toNat (lG.2.2:Int).toNat)).bind fun t132=>(some (t132,lG.1,lG.2.1,lG.2.2))) else (none)) else (none)) else (none)))=some (r1,r2,r3,r4):=h
 clear h
 obtain ⟨⟨t129,t130,t131⟩,A2,H⟩:=bd_ H
 (try dsimp only at H)
 obtain ⟨c3,H⟩:=jA H
 have mh:=eq_true c3
 have CV:=decide_eq_true c3
 clear c3
 obtain ⟨c4,H⟩:=jA H
 have nj:=eq_true c4
 have IK:=decide_eq_true c4
 clear c4
 obtain ⟨c5,H⟩:=jA H
 have pG:=eq_true c5
 have K5:=decide_eq_true c5
 clear c5
 obtain ⟨t132,A6,H⟩:=bd_ H
 simp only [Option.some.injEq,Prod.mk.injEq] at H
 obtain ⟨rfl,rfl,rfl,rfl⟩:=H
 obtain ⟨vA,OA⟩:=cV.out
 have IL:=cH vA
 have IM:=cG vA
 have IP:=aa vA 0
 have IQ:=aa vA 1
 clear vA OA
 go_enter Tryz.func80,Tryz.ntmps80
 try go_wp2_with (first|((with_reducible refine aU (f:=67) rfl ?_);refine bY (some 13) rfl rfl Tryz.func67 ay rfl #[.pointer (some ⟨g,0,none⟩),.int .u8 46,.func (.func 129) #[.pointer (some ⟨g,0,none⟩)] #[]] rfl cr ?_;(with_reducible refine (aI.calls k g dm cP 46 t129 t130 t131 w0 _ ?aX ?bL A2.out).mono ?_);(case aX=>repeat (first|(with_reducible first|exact cV.out|apply aq.alloc|apply aq.drewN|apply aq.drew|apply aq.dR|apply aq.dQ)|exact cV.out));(case bL=>repeat (first|(with_reducible first|exact HB.out|apply aJ|apply aK|apply aW|refine bn ?_ (aq.ge cV.out))|exact HB.out));rintro e w8 ⟨rfl,hi,hb,hk⟩;refine ⟨_,rfl,?_⟩;replace HK:=af.mk (bh.trans cZ hk (.inl rfl));replace HB:=af.mk (hb);replace cV:=af.mk (hi);(try clear hb);(try clear hk);(try clear hi)))
 have fH:=af.mk (aq.drew cV.out)
 have fI:=af.mk (pT HK.out)
 have jI:=af.mk (aW HB.out)
 clear cV
 clear HK
 clear HB
 have cV:=fH
 have HK:=fI
 have HB:=jI
 clear fH fI jI
 refine pz (n:=14) (S:=fun w'=>w'.cell? ⟨g,0,none⟩=some (.string t130)∧w'.cell? ⟨g,1,none⟩=some (.int .i64 t131)) (ds:=[]) #[false,false,false,false,false,false,false,false,false,false,false,false,false,false] ay (by rfl) (by rfl) ⟨cH cV.out.1,cG cV.out.1⟩ (fun hHeld=>?_);refine mD bH.aat bH.Qg (fun iq AP=>?_)
 generalize w8.drew=w9 at cV HK HB hHeld ⊢
 refine cA (i:=0) (N:=some 14) #[true,false,false,false,false,false,false,false,false,false,false,false,false,false] rfl rfl (cR iq.out ay) (fun _ _ _ h=>h) (Or.inl ⟨by rfl,eT⟩) eV ?_
 refine cA (i:=1) (N:=some 15) #[true,true,false,false,false,false,false,false,false,false,false,false,false,false] rfl rfl (cR iq.out ay) (fun _ _ _ h=>h) (Or.inl ⟨by rfl,eT⟩) eV ?_
 refine cA (i:=2) (N:=some 16) #[true,true,true,false,false,false,false,false,false,false,false,false,false,false] rfl rfl (cR iq.out ay) (fun _ _ _ h=>h) (Or.inl ⟨by rfl,eT⟩) eV ?_
 refine cA (i:=4) (N:=some 18) #[true,true,true,false,true,false,false,false,false,false,false,false,false,false] rfl rfl (cR iq.out ay) (fun _ _ _ h=>h) (Or.inl ⟨by rfl,eT⟩) eV ?_
 refine cA (i:=5) (N:=some 19) #[true,true,true,false,true,true,false,false,false,false,false,false,false,false] rfl rfl (cR iq.out ay) (fun _ _ _ h=>h) (Or.inl ⟨by rfl,eT⟩) eV ?_
 refine cA (i:=6) (N:=some 20) #[true,true,true,false,true,true,true,false,false,false,false,false,false,false] rfl rfl (cR iq.out ay) (fun _ _ _ h=>h) (Or.inl ⟨by rfl,eT⟩) eV ?_
 refine cA (i:=7) (N:=some 21) #[true,true,true,false,true,true,true,true,false,false,false,false,false,false] rfl rfl (cR iq.out ay) (fun _ _ _ h=>h) (Or.inl ⟨by rfl,eT⟩) eV ?_
 refine cA (i:=11) (N:=some 25) #[true,true,true,false,true,true,true,true,false,false,false,true,false,false] rfl rfl (cR iq.out ay) (fun _ _ _ h=>h) (Or.inl ⟨by rfl,eT⟩) eV ?_
 refine jh (i:=3) (N:=some 17) #[true,true,true,true,true,true,true,true,false,false,false,true,false,false] rfl rfl (ji iq.out AP.out ay) (fun _ _ _ h=>h) (Or.inl ⟨by rfl,(by rintro w' ⟨s0,s1⟩;go_simp;with_reducible rfl)⟩) hHeld eV ?_
 refine jh (i:=8) (N:=some 22) #[true,true,true,true,true,true,true,true,true,false,false,true,false,false] rfl rfl (ji iq.out AP.out ay) (fun _ _ _ h=>h) (Or.inl ⟨by rfl,(by rintro w' ⟨s0,s1⟩;go_simp;with_reducible rfl)⟩) hHeld eV ?_
 refine cA (i:=9) (N:=some 23) #[true,true,true,true,true,true,true,true,true,true,false,true,false,false] rfl rfl (cR iq.out ay) (fun _ _ _ h=>h) (Or.inl ⟨by rfl,eT⟩) eV ?_
 refine rD (i:=10) (N:=some 24) #[true,true,true,true,true,true,true,true,true,true,true,true,false,false] rfl rfl (mW iq.out ay) bg (fun K hK=>?_)
 refine nV Tryz.func81 ay rfl #[.string (t130.extract (cP:Int).toNat (t131:Int).toNat)] (by rfl) rfl rfl cr ?_
 with_reducible refine (b7.calls (t130.extract (cP:Int).toNat (t131:Int).toNat) t132 _ A6.out).mono ?_
 rintro e sB ⟨rfl,hb⟩
 have aau:=(hb.cell (World.block_lt_of_cell? _ _ (hHeld.1))).trans (hHeld.1)
 have aav:=(hb.cell (World.block_lt_of_cell? _ _ (hHeld.2))).trans (hHeld.2)
 refine ⟨_,rfl,?_⟩
 have fH:=af.mk (aq.below fk hb)
 have fI:=af.mk (bh.trans cZ (bh.of_below hb g none) (.inl rfl))
 have jI:=af.mk (aH eZ hb)
 clear cV
 clear HK
 clear HB
 have cV:=fH
 have HK:=fI
 have HB:=jI
 clear fH fI jI
 refine hK.out _ _ ⟨aau,aav⟩ (fun hHeld=>?_)
 clear hK K
 refine nU (a':=?_) ?_ ?_
 rotate_left
 ·show Act.put _ (some 24) _=_
  simp only [Act.put,List.setIfInBounds_toArray,List.set_cons_zero,List.set_cons_succ,cm,cw]
  rfl
 refine cA (i:=12) (N:=some 2) #[true,true,true,true,true,true,true,true,true,true,true,true,true,false] rfl rfl (cR iq.out ay) (fun _ _ _ h=>h) (Or.inl ⟨by rfl,eT⟩) eV ?_
 refine cA (i:=13) (N:=some 3) #[true,true,true,true,true,true,true,true,true,true,true,true,true,true] rfl rfl (cR iq.out ay) (fun _ _ _ h=>h) (Or.inl ⟨by rfl,eT⟩) eV ?_
 refine tA (p8 iq.out ay) ?_
 try go_wp2
 go_ret2
 exact ⟨cM,fk,eZ,cZ⟩
def fD.f (a0:Int):Option (Bool):=(gi.f a0).bind fun t133=>(if t133=true then (some true) else ((iF.f a0).bind fun t134=>(if t134=true then (some true) else ((strings_IndexByte.f (⟨#[33,35,36,37,38,39,42,43,45,47,61,63,94,95,96,123,124,125,126]⟩:ByteArray) a0).bind fun t135=>(some (decide (t135≥0)))))))
theorem fD.calls (a0:Int) (r:Bool) (w:World) (h:fD.f a0=some r):
 Calls Tryz.prog 120 #[.int .u8 a0] w fun e w'=>e= .returned (.bool r)∧fV w w':=by
 have H:((gi.f a0).bind fun t133=>(if t133=true then (some true) else ((iF.f a0).bind fun t134=>(if t134=true then (some true) else ((strings_IndexByte.f (⟨#[33,35,36,37,38,39,42,43,45,47,61,63,94,95,96,123,124,125,126]⟩:ByteArray) a0).bind fun t135=>(some (decide (t135≥0))))))))=some r:=h
 clear h
 obtain ⟨t133,A2,H⟩:=bd_ H
 by_cases c3:t133=true
 ·subst c3
  rw [if_pos rfl] at H
  obtain rfl:=Option.some.inj H
  go_enter Tryz.func120,Tryz.ntmps120
  go_wp2_with (first|((with_reducible refine aU (f:=157) rfl ?_);refine bY (some 4) rfl rfl Tryz.func157 ay rfl #[.int .u8 a0] rfl cr ?_;(with_reducible refine (gi.calls a0 true _ A2.out).mono ?_);rintro e w' ⟨rfl,⟨nd,rfl⟩⟩;refine ⟨_,rfl,?_⟩))
  go_ret
  exact ⟨dG,iw⟩
 ·replace c3:=Bool.eq_false_iff.mpr c3
  subst c3
  rw [if_neg (show ¬ (false=true) by decide)] at H
  obtain ⟨t134,A4,H⟩:=bd_ H
  by_cases c5:t134=true
  ·subst c5
   rw [if_pos rfl] at H
   obtain rfl:=Option.some.inj H
   go_enter Tryz.func120,Tryz.ntmps120
   go_wp2_with (first|((with_reducible refine aU (f:=157) rfl ?_);refine bY (some 4) rfl rfl Tryz.func157 ay rfl #[.int .u8 a0] rfl cr ?_;(with_reducible refine (gi.calls a0 false _ A2.out).mono ?_);rintro e w' ⟨rfl,⟨nd,rfl⟩⟩;refine ⟨_,rfl,?_⟩)|(go_at_call 158;(with_reducible refine (iF.calls a0 true _ A4.out).mono ?_);rintro e w' ⟨rfl,⟨nd,rfl⟩⟩))
   go_ret
   exact ⟨dG,iw⟩
  ·replace c5:=Bool.eq_false_iff.mpr c5
   subst c5
   rw [if_neg (show ¬ (false=true) by decide)] at H
   obtain ⟨t135,A6,H⟩:=bd_ H
   obtain rfl:=Option.some.inj H
   go_enter Tryz.func120,Tryz.ntmps120
   go_wp2_with (first|((with_reducible refine aU (f:=157) rfl ?_);refine bY (some 4) rfl rfl Tryz.func157 ay rfl #[.int .u8 a0] rfl cr ?_;(with_reducible refine (gi.calls a0 false _ A2.out).mono ?_);rintro e w' ⟨rfl,⟨nd,rfl⟩⟩;refine ⟨_,rfl,?_⟩)|(go_at_call 158;(with_reducible refine (iF.calls a0 false _ A4.out).mono ?_);rintro e w' ⟨rfl,⟨nd,rfl⟩⟩)|(go_at_call 159;(with_reducible refine (strings_IndexByte.calls (⟨#[33,35,36,37,38,39,42,43,45,47,61,63,94,95,96,123,124,125,126]⟩:ByteArray) a0 t135 _ A6.out).mono ?_);rintro e w' ⟨rfl,⟨nd,rfl⟩⟩))
   go_ret
   exact ⟨dG,iw⟩
def aT.l0:Nat→Int→ByteArray→Int→Option (ByteArray×Bool×ByteArray×Int)
 | 0,_,_,_ =>none
 |k + 1,x6,eO,dM=>if dM < (eO.size:Int) then (if 0≤dM then ((fD.f (bt eO dM)).bind fun t136=>(if t136=true then (aT.l0 k x6 eO (wrap64 (dM + 1))) else (if 0≤x6 then (if x6≤dM then (if dM≤(eO.size:Int) then (some (eO.extract (x6:Int).toNat (dM:Int).toNat,decide (dM > x6),eO,dM)) else (none)) else (none)) else (none)))) else (none)) else (if 0≤x6 then (if x6≤dM then (if dM≤(eO.size:Int) then (some (eO.extract (x6:Int).toNat (dM:Int).toNat,decide (dM > x6),eO,dM)) else (none)) else (none)) else (none))
def aT.f (k:Nat) (dm:ByteArray) (cP:Int):Option (ByteArray×Bool×ByteArray×Int):=aT.l0 k cP dm cP
theorem aT.eD:∀ k,(∀ y0 y1 y2,bZ (aT.l0 k y0 y1 y2) (aT.l0 (k + 1) y0 y1 y2))
 | 0=>fun _ _ _ r h=>by simp [aT.l0] at h
 |k + 1=>by
  have iJ:=aT.eD k
  ·intro y0 y1 y2
   unfold aT.l0
   repeat' first
   |(with_reducible first|exact iJ _ _ _|exact bZ.refl _|exact bZ.none _|refine bZ.ite ?_ ?_|refine bZ.bind ?_ (fun _ =>?_))
   |exact iJ _ _ _
   |exact bZ.none _
   |refine bZ.ite ?_ ?_
   |refine bZ.bind ?_ (fun _ =>?_)
theorem aT.mono:∀ a0 a1 k,bZ (aT.f k a0 a1) (aT.f (k + 1) a0 a1):=by
 intro a0 a1 k
 have iJ:=aT.eD k
 unfold aT.f
 repeat' first
  |(with_reducible first|exact iJ _ _ _|exact bZ.refl _|exact bZ.none _|refine bZ.ite ?_ ?_|refine bZ.bind ?_ (fun _ =>?_))
  |exact iJ _ _ _
  |exact bZ.none _
  |refine bZ.ite ?_ ?_
  |refine bZ.bind ?_ (fun _ =>?_)
theorem aT.calls (k:Nat) (g:Nat) (dm:ByteArray) (cP:Int) (r1:ByteArray) (r2:Bool) (r3:ByteArray) (r4:Int) (w0 w:World) (hI:aq w0 w g dm cP) (hB:Below w0.heap.size w0 w) (h:aT.f k dm cP=some (r1,r2,r3,r4)):
 Calls Tryz.prog 119 #[.pointer (some ⟨g,0,none⟩),.func (.func 120) #[] #[]] w fun e w'=>e= .returned (.tuple #[.string r1,.bool r2])∧aq w0 w' g r3 r4∧Below w0.heap.size w0 w'∧bh w w' g none:=by
 have cV:=af.mk hI
 have HK:=af.mk (bh.refl w g none)
 have HL:=af.mk hB.size
 clear hI
 have Hp:=af.mk hB.size
 have HB:=af.mk hB
 clear hB
 have H:(aT.l0 k cP dm cP)=some (r1,r2,r3,r4):=h
 clear h
 have H':=af.mk H
 clear H
 obtain ⟨pH,IW⟩:=cV.out
 have C0:=cH pH
 have C2:=cG pH
 have C3:=aa pH 0
 have C4:=aa pH 1
 clear pH IW
 go_enter Tryz.func119,Tryz.ntmps119
 go_wp2
 repeat (go_quiet (fail);try go_wp2)
 go_loopg [] k (fun kq w'=>∃ (bE:ByteArray) (bz:Int),af (aT.l0 kq cP bE bz=some (r1,r2,r3,r4))∧af (kq≤k)∧af (aq w0 w' g bE bz)∧af (bh w w' g none)∧af (Below w0.heap.size w0 w'))
 case atStart=>exact ⟨(dm),(cP),H',⟨Nat.le_refl _⟩,⟨fk⟩,⟨cZ⟩,⟨eZ⟩⟩
 case round=>
  clear H'
  obtain ⟨bE,bz,HA,sI,cV,HK,HB⟩:=hrel
  cases gk with
  |zero=>exact absurd HA.out (by simp [aT.l0])
  |succ k1=>
   have H:=HA.out
   clear HA
   simp only [aT.l0] at H
   by_cases c4:bz < (bE.size:Int)
   ·rw [if_pos c4] at H
    have nj:=decide_eq_true c4
    clear c4
    obtain ⟨c5,H⟩:=jA H
    have pG:=decide_eq_true c5
    clear c5
    obtain ⟨t136,A7,H⟩:=bd_ H
    by_cases c8:t136=true
    ·subst c8
     rw [if_pos rfl] at H
     have H':=af.mk H
     clear H
     obtain ⟨kD,zx⟩:=cV.out
     have nM:=cH kD
     have nN:=cG kD
     have nO:=aa kD 0
     have nP:=aa kD 1
     clear kD zx
     have p6: 0≤(bz:Int):=of_decide_eq_true cE
     have q6:bz < (bE.size:Int):=of_decide_eq_true cE
     have Qf:=iW bE bz
     replace p6:=eq_true p6
     replace q6:=eq_true q6
     go_wp2_with (first|(go_at_call 120;(with_reducible refine (fD.calls (bt bE bz) true _ A7.out).mono ?_);rintro e w' ⟨rfl,⟨nd,rfl⟩⟩;(try first|exact ⟨rfl,_,World.drewN_drewN _ _ _⟩|exact ⟨rfl,_,Eq.trans (World.drewN_drewN _ _ _) (congrArg (World.drewN _) (Nat.add_assoc _ _ _))⟩)))
     repeat (go_quiet (first|(go_at_call 120;(with_reducible refine (fD.calls (bt bE bz) true _ A7.out).mono ?_);rintro e w' ⟨rfl,⟨nd,rfl⟩⟩;(try first|exact ⟨rfl,_,World.drewN_drewN _ _ _⟩|exact ⟨rfl,_,Eq.trans (World.drewN_drewN _ _ _) (congrArg (World.drewN _) (Nat.add_assoc _ _ _))⟩)));try go_wp2_with (first|(go_at_call 120;(with_reducible refine (fD.calls (bt bE bz) true _ A7.out).mono ?_);rintro e w' ⟨rfl,⟨nd,rfl⟩⟩;(try first|exact ⟨rfl,_,World.drewN_drewN _ _ _⟩|exact ⟨rfl,_,Eq.trans (World.drewN_drewN _ _ _) (congrArg (World.drewN _) (Nat.add_assoc _ _ _))⟩))))
     go_roundg k1
     case measure=>have:=sI.out;omega
     case rel=>exact ⟨(bE),(wrap64 (bz + 1)),H',⟨kV⟩,⟨fk⟩,⟨cZ⟩,⟨eZ⟩⟩
    ·replace c8:=Bool.eq_false_iff.mpr c8
     subst c8
     rw [if_neg (show ¬ (false=true) by decide)] at H
     obtain ⟨c10,H⟩:=jA H
     have AH:=eq_true c10
     have Np:=decide_eq_true c10
     clear c10
     obtain ⟨c11,H⟩:=jA H
     have xL:=eq_true c11
     have EA:=decide_eq_true c11
     clear c11
     obtain ⟨c12,H⟩:=jA H
     have Nq:=eq_true c12
     have Nr:=decide_eq_true c12
     clear c12
     simp only [Option.some.injEq,Prod.mk.injEq] at H
     obtain ⟨rfl,rfl,rfl,rfl⟩:=H
     obtain ⟨lD,AJ⟩:=cV.out
     have rJ:=cH lD
     have rK:=cG lD
     have rL:=aa lD 0
     have rM:=aa lD 1
     clear lD AJ
     have p6: 0≤(bz:Int):=of_decide_eq_true cE
     have q6:bz < (bE.size:Int):=of_decide_eq_true cE
     have Qf:=iW bE bz
     replace p6:=eq_true p6
     replace q6:=eq_true q6
     go_wp2_with (first|(go_at_call 120;(with_reducible refine (fD.calls (bt bE bz) false _ A7.out).mono ?_);rintro e w' ⟨rfl,⟨nd,rfl⟩⟩;(try first|exact ⟨rfl,_,World.drewN_drewN _ _ _⟩|exact ⟨rfl,_,Eq.trans (World.drewN_drewN _ _ _) (congrArg (World.drewN _) (Nat.add_assoc _ _ _))⟩)))
     repeat (go_quiet (first|(go_at_call 120;(with_reducible refine (fD.calls (bt bE bz) false _ A7.out).mono ?_);rintro e w' ⟨rfl,⟨nd,rfl⟩⟩;(try first|exact ⟨rfl,_,World.drewN_drewN _ _ _⟩|exact ⟨rfl,_,Eq.trans (World.drewN_drewN _ _ _) (congrArg (World.drewN _) (Nat.add_assoc _ _ _))⟩)));try go_wp2_with (first|(go_at_call 120;(with_reducible refine (fD.calls (bt bE bz) false _ A7.out).mono ?_);rintro e w' ⟨rfl,⟨nd,rfl⟩⟩;(try first|exact ⟨rfl,_,World.drewN_drewN _ _ _⟩|exact ⟨rfl,_,Eq.trans (World.drewN_drewN _ _ _) (congrArg (World.drewN _) (Nat.add_assoc _ _ _))⟩))))
     go_ret2
     exact ⟨cM,fk,eZ,cZ⟩
   ·rw [if_neg c4] at H
    have nj:=decide_eq_false c4
    clear c4
    obtain ⟨c14,H⟩:=jA H
    have Ns:=eq_true c14
    have Nt:=decide_eq_true c14
    clear c14
    obtain ⟨c15,H⟩:=jA H
    have vI:=eq_true c15
    have vJ:=decide_eq_true c15
    clear c15
    obtain ⟨c16,H⟩:=jA H
    have Nu:=eq_true c16
    have Nv:=decide_eq_true c16
    clear c16
    simp only [Option.some.injEq,Prod.mk.injEq] at H
    obtain ⟨rfl,rfl,rfl,rfl⟩:=H
    obtain ⟨lF,AK⟩:=cV.out
    have EB:=cH lF
    have EC:=cG lF
    have ED:=aa lF 0
    have EE:=aa lF 1
    clear lF AK
    go_wp2
    repeat (go_quiet (fail);try go_wp2)
    go_ret2
    exact ⟨cM,fk,eZ,cZ⟩
def cY.f (k:Nat) (dm:ByteArray) (cP:Int):Option (Bool×ByteArray×Int):=(aT.f k dm cP).bind fun vK=>(some (vK.2.1,vK.2.2.1,vK.2.2.2))
theorem cY.mono:∀ a0 a1 k,bZ (cY.f k a0 a1) (cY.f (k + 1) a0 a1):=by
 intro a0 a1 k
 unfold cY.f
 repeat' first
  |(with_reducible first|exact aT.mono _ _ _|exact bZ.refl _|exact bZ.none _|refine bZ.ite ?_ ?_|refine bZ.bind ?_ (fun _ =>?_))
  |exact aT.mono _ _ _
  |exact bZ.none _
  |refine bZ.ite ?_ ?_
  |refine bZ.bind ?_ (fun _ =>?_)
theorem cY.calls (k:Nat) (g:Nat) (dm:ByteArray) (cP:Int) (r1:Bool) (r2:ByteArray) (r3:Int) (w0 w:World) (hI:aq w0 w g dm cP) (hB:Below w0.heap.size w0 w) (h:cY.f k dm cP=some (r1,r2,r3)):
 Calls Tryz.prog 68 #[.pointer (some ⟨g,0,none⟩)] w fun e w'=>e= .returned (.bool r1)∧aq w0 w' g r2 r3∧Below w0.heap.size w0 w'∧bh w w' g none:=by
 have cV:=af.mk hI
 have HK:=af.mk (bh.refl w g none)
 have HL:=af.mk hB.size
 clear hI
 have Hp:=af.mk hB.size
 have HB:=af.mk hB
 clear hB
 have H:((aT.f k dm cP).bind fun vK=>(some (vK.2.1,vK.2.2.1,vK.2.2.2)))=some (r1,r2,r3):=h
 clear h
 obtain ⟨⟨t137,t138,t139,t140⟩,A2,H⟩:=bd_ H
 (try dsimp only at H)
 simp only [Option.some.injEq,Prod.mk.injEq] at H
 obtain ⟨rfl,rfl,rfl⟩:=H
 go_enter Tryz.func68,Tryz.ntmps68
 go_wp2_with (first|((with_reducible refine aU (f:=119) rfl ?_);refine bY (some 7) rfl rfl Tryz.func119 ay rfl #[.pointer (some ⟨g,0,none⟩),.func (.func 120) #[] #[]] rfl cr ?_;(with_reducible refine (aT.calls k g dm cP t137 t138 t139 t140 w0 _ ?aX ?bL A2.out).mono ?_);(case aX=>repeat (first|(with_reducible first|exact cV.out|apply aq.alloc|apply aq.drewN|apply aq.drew|apply aq.dR|apply aq.dQ)|exact cV.out));(case bL=>repeat (first|(with_reducible first|exact HB.out|apply aJ|apply aK|apply aW|refine bn ?_ (aq.ge cV.out))|exact HB.out));rintro e w3 ⟨rfl,hi,hb,hk⟩;refine ⟨_,rfl,?_⟩;replace HK:=af.mk (bh.trans cZ hk (.inl rfl));replace HB:=af.mk (hb);replace cV:=af.mk (hi);(try clear hb);(try clear hk);(try clear hi)))
 go_ret
 exact ⟨cM,fk,eZ,cZ⟩
def ck.f (dm:ByteArray) (cP:Int):Option (Int×ByteArray×Int):=if cP < (dm.size:Int) then (if 0≤cP then (some (bt dm cP,dm,cP)) else (none)) else (some (0,dm,cP))
theorem ck.calls (g:Nat) (dm:ByteArray) (cP:Int) (r1:Int) (r2:ByteArray) (r3:Int) (w0 w:World) (hI:aq w0 w g dm cP) (hB:Below w0.heap.size w0 w) (h:ck.f dm cP=some (r1,r2,r3)):
 Calls Tryz.prog 115 #[.pointer (some ⟨g,0,none⟩)] w fun e w'=>e= .returned (.int .u8 r1)∧aq w0 w' g r2 r3∧Below w0.heap.size w0 w'∧bh w w' g none:=by
 have cV:=af.mk hI
 have HK:=af.mk (bh.refl w g none)
 have HL:=af.mk hB.size
 clear hI
 have Hp:=af.mk hB.size
 have HB:=af.mk hB
 clear hB
 have H:(if cP < (dm.size:Int) then (if 0≤cP then (some (bt dm cP,dm,cP)) else (none)) else (some (0,dm,cP)))=some (r1,r2,r3):=h
 clear h
 by_cases c2:cP < (dm.size:Int)
 ·rw [if_pos c2] at H
  have zy:=decide_eq_true c2
  clear c2
  obtain ⟨c3,H⟩:=jA H
  have mh:=decide_eq_true c3
  clear c3
  simp only [Option.some.injEq,Prod.mk.injEq] at H
  obtain ⟨rfl,rfl,rfl⟩:=H
  obtain ⟨IY,aaw⟩:=cV.out
  have C5:=cH IY
  have C6:=cG IY
  have C7:=aa IY 0
  have C8:=aa IY 1
  clear IY aaw
  have p4: 0≤(cP:Int):=of_decide_eq_true cE
  have q4:cP < (dm.size:Int):=of_decide_eq_true cE
  have hx4:=iW dm cP
  replace p4:=eq_true p4
  replace q4:=eq_true q4
  go_enter Tryz.func115,Tryz.ntmps115
  go_wp2
  repeat (go_quiet (fail);try go_wp2)
  go_ret
  exact ⟨cM,fk,eZ,cZ⟩
 ·rw [if_neg c2] at H
  have zy:=decide_eq_false c2
  clear c2
  simp only [Option.some.injEq,Prod.mk.injEq] at H
  obtain ⟨rfl,rfl,rfl⟩:=H
  obtain ⟨IZ,aax⟩:=cV.out
  have vL:=cH IZ
  have vM:=cG IZ
  have vN:=aa IZ 0
  have vO:=aa IZ 1
  clear IZ aax
  go_enter Tryz.func115,Tryz.ntmps115
  go_wp2
  repeat (go_quiet (fail);try go_wp2)
  go_ret
  exact ⟨cM,fk,eZ,cZ⟩
def aC.l0:Nat→Int→ByteArray→Int→Option (Bool×ByteArray×Int)
 | 0,_,_,_ =>none
 |k + 1,x1,eO,dM=>(cY.f k eO dM).bind fun AQ=>(if AQ.1=true then ((bu.f AQ.2.1 AQ.2.2 x1).bind fun AR=>(if AR.1=true then (aC.l0 k x1 AR.2.1 AR.2.2) else (some (true,AR.2.1,AR.2.2)))) else (some (false,AQ.2.1,AQ.2.2)))
def aC.f (k:Nat) (dm:ByteArray) (cP:Int) (a1:Int):Option (Bool×ByteArray×Int):=aC.l0 k a1 dm cP
theorem aC.eD:∀ k,(∀ y0 y1 y2,bZ (aC.l0 k y0 y1 y2) (aC.l0 (k + 1) y0 y1 y2))
 | 0=>fun _ _ _ r h=>by simp [aC.l0] at h
 |k + 1=>by
  have iJ:=aC.eD k
  ·intro y0 y1 y2
   unfold aC.l0
   repeat' first
   |(with_reducible first|exact iJ _ _ _|exact cY.mono _ _ _|exact bZ.refl _|exact bZ.none _|refine bZ.ite ?_ ?_|refine bZ.bind ?_ (fun _ =>?_))
   |exact iJ _ _ _
   |exact cY.mono _ _ _
   |exact bZ.none _
   |refine bZ.ite ?_ ?_
   |refine bZ.bind ?_ (fun _ =>?_)
theorem aC.mono:∀ a0 a1 a2 k,bZ (aC.f k a0 a1 a2) (aC.f (k + 1) a0 a1 a2):=by
 intro a0 a1 a2 k
 have iJ:=aC.eD k
 unfold aC.f
 repeat' first
  |(with_reducible first|exact iJ _ _ _|exact cY.mono _ _ _|exact bZ.refl _|exact bZ.none _|refine bZ.ite ?_ ?_|refine bZ.bind ?_ (fun _ =>?_))
  |exact iJ _ _ _
  |exact cY.mono _ _ _
  |exact bZ.none _
  |refine bZ.ite ?_ ?_
  |refine bZ.bind ?_ (fun _ =>?_)
theorem aC.calls (k:Nat) (g:Nat) (dm:ByteArray) (cP:Int) (a1:Int) (r1:Bool) (r2:ByteArray) (r3:Int) (w0 w:World) (hI:aq w0 w g dm cP) (hB:Below w0.heap.size w0 w) (h:aC.f k dm cP a1=some (r1,r2,r3)):
 Calls Tryz.prog 67 #[.pointer (some ⟨g,0,none⟩),.int .u8 a1,.func (.func 68) #[.pointer (some ⟨g,0,none⟩)] #[]] w fun e w'=>e= .returned (.bool r1)∧aq w0 w' g r2 r3∧Below w0.heap.size w0 w'∧bh w w' g none:=by
 have cV:=af.mk hI
 have HK:=af.mk (bh.refl w g none)
 have HL:=af.mk hB.size
 clear hI
 have Hp:=af.mk hB.size
 have HB:=af.mk hB
 clear hB
 have H:(aC.l0 k a1 dm cP)=some (r1,r2,r3):=h
 clear h
 have H':=af.mk H
 clear H
 go_enter Tryz.func67,Tryz.ntmps67
 go_wp2
 go_loopg [] k (fun kq w'=>∃ (bE:ByteArray) (bz:Int),af (aC.l0 kq a1 bE bz=some (r1,r2,r3))∧af (kq≤k)∧af (aq w0 w' g bE bz)∧af (bh w w' g none)∧af (Below w0.heap.size w0 w'))
 case atStart=>exact ⟨(dm),(cP),H',⟨Nat.le_refl _⟩,⟨fk⟩,⟨cZ⟩,⟨eZ⟩⟩
 case round=>
  clear H'
  obtain ⟨bE,bz,HA,sI,cV,HK,HB⟩:=hrel
  cases gk with
  |zero=>exact absurd HA.out (by simp [aC.l0])
  |succ k1=>
   have H:=HA.out
   clear HA
   simp only [aC.l0] at H
   obtain ⟨⟨t141,t142,t143⟩,A4,H⟩:=bd_ H
   (try dsimp only at H)
   by_cases c5:t141=true
   ·subst c5
    rw [if_pos rfl] at H
    obtain ⟨⟨t144,t145,t146⟩,A6,H⟩:=bd_ H
    (try dsimp only at H)
    by_cases c7:t144=true
    ·subst c7
     rw [if_pos rfl] at H
     have H':=af.mk H
     clear H
     go_wp2_with (first|(go_at_call 68;(with_reducible refine (cY.calls k1 g bE bz true t142 t143 w0 _ ?aX ?bL A4.out).mono ?_);(case aX=>repeat (first|(with_reducible first|exact cV.out|apply aq.alloc|apply aq.drewN|apply aq.drew|apply aq.dR|apply aq.dQ)|exact cV.out));(case bL=>repeat (first|(with_reducible first|exact HB.out|apply aJ|apply aK|apply aW|refine bn ?_ (aq.ge cV.out))|exact HB.out));rintro e w8 ⟨rfl,hi,hb,hk⟩;replace HK:=af.mk (bh.trans cZ hk (.inl rfl));replace HB:=af.mk (hb);replace cV:=af.mk (hi);(try clear hb);(try clear hk);(try clear hi))|((with_reducible refine aU (f:=56) rfl ?_);refine bY (some 11) rfl rfl Tryz.func56 ay rfl #[.pointer (some ⟨g,0,none⟩),.int .u8 a1] rfl cr ?_;(with_reducible refine (bu.calls g t142 t143 a1 true t145 t146 w0 _ ?aX ?bL A6.out).mono ?_);(case aX=>repeat (first|(with_reducible first|exact cV.out|apply aq.alloc|apply aq.drewN|apply aq.drew|apply aq.dR|apply aq.dQ)|exact cV.out));(case bL=>repeat (first|(with_reducible first|exact HB.out|apply aJ|apply aK|apply aW|refine bn ?_ (aq.ge cV.out))|exact HB.out));rintro e w9 ⟨rfl,hi,hb,hk⟩;refine ⟨_,rfl,?_⟩;replace HK:=af.mk (bh.trans cZ hk (.inl rfl));replace HB:=af.mk (hb);replace cV:=af.mk (hi);(try clear hb);(try clear hk);(try clear hi)))
     go_roundg k1
     case measure=>have:=sI.out;omega
     case rel=>exact ⟨(t145),(t146),H',⟨kV⟩,⟨fk⟩,⟨cZ⟩,⟨eZ⟩⟩
    ·replace c7:=Bool.eq_false_iff.mpr c7
     subst c7
     rw [if_neg (show ¬ (false=true) by decide)] at H
     simp only [Option.some.injEq,Prod.mk.injEq] at H
     obtain ⟨rfl,rfl,rfl⟩:=H
     go_wp2_with (first|(go_at_call 68;(with_reducible refine (cY.calls k1 g bE bz true t142 t143 w0 _ ?aX ?bL A4.out).mono ?_);(case aX=>repeat (first|(with_reducible first|exact cV.out|apply aq.alloc|apply aq.drewN|apply aq.drew|apply aq.dR|apply aq.dQ)|exact cV.out));(case bL=>repeat (first|(with_reducible first|exact HB.out|apply aJ|apply aK|apply aW|refine bn ?_ (aq.ge cV.out))|exact HB.out));rintro e sB ⟨rfl,hi,hb,hk⟩;replace HK:=af.mk (bh.trans cZ hk (.inl rfl));replace HB:=af.mk (hb);replace cV:=af.mk (hi);(try clear hb);(try clear hk);(try clear hi))|((with_reducible refine aU (f:=56) rfl ?_);refine bY (some 11) rfl rfl Tryz.func56 ay rfl #[.pointer (some ⟨g,0,none⟩),.int .u8 a1] rfl cr ?_;(with_reducible refine (bu.calls g t142 t143 a1 false t145 t146 w0 _ ?aX ?bL A6.out).mono ?_);(case aX=>repeat (first|(with_reducible first|exact cV.out|apply aq.alloc|apply aq.drewN|apply aq.drew|apply aq.dR|apply aq.dQ)|exact cV.out));(case bL=>repeat (first|(with_reducible first|exact HB.out|apply aJ|apply aK|apply aW|refine bn ?_ (aq.ge cV.out))|exact HB.out));rintro e Qd ⟨rfl,hi,hb,hk⟩;refine ⟨_,rfl,?_⟩;replace HK:=af.mk (bh.trans cZ hk (.inl rfl));replace HB:=af.mk (hb);replace cV:=af.mk (hi);(try clear hb);(try clear hk);(try clear hi)))
     go_ret
     exact ⟨cM,fk,eZ,cZ⟩
   ·replace c5:=Bool.eq_false_iff.mpr c5
    subst c5
    rw [if_neg (show ¬ (false=true) by decide)] at H
    simp only [Option.some.injEq,Prod.mk.injEq] at H
    obtain ⟨rfl,rfl,rfl⟩:=H
    go_wp2_with (first|(go_at_call 68;(with_reducible refine (cY.calls k1 g bE bz false t142 t143 w0 _ ?aX ?bL A4.out).mono ?_);(case aX=>repeat (first|(with_reducible first|exact cV.out|apply aq.alloc|apply aq.drewN|apply aq.drew|apply aq.dR|apply aq.dQ)|exact cV.out));(case bL=>repeat (first|(with_reducible first|exact HB.out|apply aJ|apply aK|apply aW|refine bn ?_ (aq.ge cV.out))|exact HB.out));rintro e Hq ⟨rfl,hi,hb,hk⟩;replace HK:=af.mk (bh.trans cZ hk (.inl rfl));replace HB:=af.mk (hb);replace cV:=af.mk (hi);(try clear hb);(try clear hk);(try clear hi)))
    go_ret
    exact ⟨cM,fk,eZ,cZ⟩
end Go.Proofs.YtokpnfljjjjikaaGreatDoor.lO
