import Derived.Test.YtokpnfljjjjikaaGreatDoorQPtx3
set_option maxHeartbeats 8000000
set_option maxRecDepth 100000
namespace Go.Proofs.YtokpnfljjjjikaaGreatDoor.mY
open Go.RowKit Go.Proofs.YtokpnfljjjjikaaGreatDoor.qP Go.Proofs.aj.bO Go.Proofs.aj.fA Go.Proofs.aj.cK
attribute [local go_sem] ia ig iU iV gf gh ij iq
set_option linter.unusedVariables false
set_option linter.unusedSimpArgs false
def cv.f (k:Nat) (fB:ByteArray) (eA:Int):Option (ByteArray×Bool×ByteArray×Int):=(bn.f k fB eA 46).bind fun qV=>(if 0≤eA then (if eA≤qV.2.2 then (if qV.2.2≤(qV.2.1.size:Int) then ((cS.f (qV.2.1.extract (eA:Int).toNat (qV.2.2:Int).toNat)).bind fun t132=>(some (t132,qV.1,qV.2.1,qV.2.2))) else (none)) else (none)) else (none))
theorem cv.mono:∀ a0 a1 k,bL (cv.f k a0 a1) (cv.f (k + 1) a0 a1):=by
 intro a0 a1 k
 unfold cv.f
 repeat' first
  |(with_reducible first|exact bn.mono _ _ _ _|exact bL.refl _|exact bL.none _|refine bL.ite ?_ ?_|refine bL.bind ?_ (fun _ =>?_))
  |exact bn.mono _ _ _ _
  |exact bL.none _
  |refine bL.ite ?_ ?_
  |refine bL.bind ?_ (fun _ =>?_)
def cv.T3:Bool×List (List Nat×List Nat):=(true,[([],[]),([0],[0]),([1],[1]),([2],[2]),([],[]),([],[]),([5],[5]),([6],[6]),([7],[7]),([3,4,8],[3,4,8]),([9],[9]),([],[]),([10,10,0,1,2,3,4,5,6,7,8,9,10],[10]),([11,12,0,1,2,3,4,5,6,7,8,9,10,11,12],[11])])
def cv.B3:List Nat:=[0,1,3,7,0,0,32,96,224,511,1023,0,2047,8191]
theorem cv.ao1:rF .any (opsOf Tryz.f80 3)=cv.T3:=by kernel_rfl
theorem cv.afD:rS cv.T3.2 cv.B3=true:=by kernel_rfl
theorem cv.calls (k:Nat) (g:Nat) (fB:ByteArray) (eA:Int) (r1:ByteArray) (r2:Bool) (r3:ByteArray) (r4:Int) (w0 w:World) (hI:aD w0 w g fB eA) (hB:Below w0.heap.size w0 w) (h:cv.f k fB eA=some (r1,r2,r3,r4)):
 Calls Tryz.prog 80 #[.pointer (some ⟨g,0,none⟩)] w fun e w'=>e= .returned (.tuple #[.string r1,.bool r2])∧aD w0 w' g r3 r4∧Below w0.heap.size w0 w'∧bM w w' g none:=by
 have eW:=aa.mk hI
 have HK:=aa.mk (bM.refl w g none)
 have HL:=aa.mk hB.size
 clear hI
 have UI:=aa.mk hB.size
 have HB:=aa.mk hB
 clear hB
 have H:((bn.f k fB eA 46).bind fun qV=>(if 0≤eA then (if eA≤qV.2.2 then (if qV.2.2≤(qV.2.1.size:Int) then ((cS.f (qV.2.1.extract (eA:Int).toNat (qV.2.2:Int).toNat)).bind fun t132=>(some (t132,qV.1,qV.2.1,qV.2.2))) else (none)) else (none)) else (none)))=some (r1,r2,r3,r4):=h
 clear h
 obtain ⟨⟨t129,t130,t131⟩,A2,H⟩:=bd_ H
 (try dsimp only at H)
 obtain ⟨c3,H⟩:=iA H
 have mg:=eq_true c3
 have E7:=decide_eq_true c3
 clear c3
 obtain ⟨c4,H⟩:=iA H
 have nB:=eq_true c4
 have LJ:=decide_eq_true c4
 clear c4
 obtain ⟨c5,H⟩:=iA H
 have lF:=eq_true c5
 have Cf:=decide_eq_true c5
 clear c5
 obtain ⟨t132,A6,H⟩:=bd_ H
 simp only [Option.some.injEq,Prod.mk.injEq] at H
 obtain ⟨rfl,rfl,rfl,rfl⟩:=H
 obtain ⟨E8,adi⟩:=eW.out
 have Jq:=dU E8
 have Jr:=dP E8
 have Js:=af E8 0
 have Jt:=af E8 1
 clear E8 adi
 go_enter Tryz.func80,Tryz.ntmps80
 try go_wp2_with (first|((with_reducible refine aK (f:=67) rfl ?_);refine bU (some 13) rfl rfl Tryz.func67 aq rfl #[.pointer (some ⟨g,0,none⟩),.int .u8 46,.func (.func 129) #[.pointer (some ⟨g,0,none⟩)] #[]] rfl cz ?_;(with_reducible refine (bn.calls k g fB eA 46 t129 t130 t131 w0 _ ?aT ?cw A2.out).mono ?_);(case aT=>repeat (first|(with_reducible first|exact eW.out|apply aD.alloc|apply aD.drewN|apply aD.drew|apply aD.gm|apply aD.gi)|exact eW.out));(case cw=>repeat (first|(with_reducible first|exact HB.out|apply aV|apply aN|apply bf|refine aZ ?_ (aD.ge eW.out))|exact HB.out));rintro e w8 ⟨rfl,hi,hb,hk⟩;refine ⟨_,rfl,?_⟩;replace HK:=aa.mk (bM.trans fo hk (.inl rfl));replace HB:=aa.mk (hb);replace eW:=aa.mk (hi);(try clear hb);(try clear hk);(try clear hi)))
 have lJ:=aa.mk (aD.drew eW.out)
 have lK:=aa.mk (xM HK.out)
 have qb:=aa.mk (bf HB.out)
 clear eW
 clear HK
 clear HB
 have eW:=lJ
 have HK:=lK
 have HB:=qb
 clear lJ lK qb
 refine rE (n:=14) (S:=fun w'=>w'.cell? ⟨g,0,none⟩=some (.string t130)∧w'.cell? ⟨g,1,none⟩=some (.int .i64 t131)) (ds:=[]) #[false,false,false,false,false,false,false,false,false,false,false,false,false,false] aq (by rfl) (by rfl) ⟨dU eW.out.1,dP eW.out.1⟩ (fun hHeld=>?_);refine nj cv.ao1 cv.afD (fun iE zh=>?_)
 generalize w8.drew=w9 at eW HK HB hHeld ⊢
 refine cO (i:=0) (N:=some 14) #[true,false,false,false,false,false,false,false,false,false,false,false,false,false] rfl rfl (cW iE.out aq) (fun _ _ _ h=>h) (Or.inl ⟨by rfl,dK⟩) dL ?_
 refine cO (i:=1) (N:=some 15) #[true,true,false,false,false,false,false,false,false,false,false,false,false,false] rfl rfl (cW iE.out aq) (fun _ _ _ h=>h) (Or.inl ⟨by rfl,dK⟩) dL ?_
 refine cO (i:=2) (N:=some 16) #[true,true,true,false,false,false,false,false,false,false,false,false,false,false] rfl rfl (cW iE.out aq) (fun _ _ _ h=>h) (Or.inl ⟨by rfl,dK⟩) dL ?_
 refine cO (i:=4) (N:=some 18) #[true,true,true,false,true,false,false,false,false,false,false,false,false,false] rfl rfl (cW iE.out aq) (fun _ _ _ h=>h) (Or.inl ⟨by rfl,dK⟩) dL ?_
 refine cO (i:=5) (N:=some 19) #[true,true,true,false,true,true,false,false,false,false,false,false,false,false] rfl rfl (cW iE.out aq) (fun _ _ _ h=>h) (Or.inl ⟨by rfl,dK⟩) dL ?_
 refine cO (i:=6) (N:=some 20) #[true,true,true,false,true,true,true,false,false,false,false,false,false,false] rfl rfl (cW iE.out aq) (fun _ _ _ h=>h) (Or.inl ⟨by rfl,dK⟩) dL ?_
 refine cO (i:=7) (N:=some 21) #[true,true,true,false,true,true,true,true,false,false,false,false,false,false] rfl rfl (cW iE.out aq) (fun _ _ _ h=>h) (Or.inl ⟨by rfl,dK⟩) dL ?_
 refine cO (i:=11) (N:=some 25) #[true,true,true,false,true,true,true,true,false,false,false,true,false,false] rfl rfl (cW iE.out aq) (fun _ _ _ h=>h) (Or.inl ⟨by rfl,dK⟩) dL ?_
 refine ke (i:=3) (N:=some 17) #[true,true,true,true,true,true,true,true,false,false,false,true,false,false] rfl rfl (iO iE.out zh.out aq) (fun _ _ _ h=>h) (Or.inl ⟨by rfl,(by rintro w' ⟨s0,s1⟩;go_simp;with_reducible rfl)⟩) hHeld dL ?_
 refine ke (i:=8) (N:=some 22) #[true,true,true,true,true,true,true,true,true,false,false,true,false,false] rfl rfl (iO iE.out zh.out aq) (fun _ _ _ h=>h) (Or.inl ⟨by rfl,(by rintro w' ⟨s0,s1⟩;go_simp;with_reducible rfl)⟩) hHeld dL ?_
 refine cO (i:=9) (N:=some 23) #[true,true,true,true,true,true,true,true,true,true,false,true,false,false] rfl rfl (cW iE.out aq) (fun _ _ _ h=>h) (Or.inl ⟨by rfl,dK⟩) dL ?_
 refine zx (i:=10) (N:=some 24) #[true,true,true,true,true,true,true,true,true,true,true,true,false,false] rfl rfl (nA iE.out aq) bh (fun K hK=>?_)
 refine vV Tryz.func81 aq rfl #[.string (t130.extract (eA:Int).toNat (t131:Int).toNat)] (by rfl) rfl rfl cz ?_
 with_reducible refine (cS.calls (t130.extract (eA:Int).toNat (t131:Int).toNat) t132 _ A6.out).mono ?_
 rintro e um ⟨rfl,hb⟩
 have ao2:=(hb.cell (World.block_lt_of_cell? _ _ (hHeld.1))).trans (hHeld.1)
 have ao3:=(hb.cell (World.block_lt_of_cell? _ _ (hHeld.2))).trans (hHeld.2)
 refine ⟨_,rfl,?_⟩
 have lJ:=aa.mk (aD.below gz hb)
 have lK:=aa.mk (bM.trans fo (bM.of_below hb g none) (.inl rfl))
 have qb:=aa.mk (aA gy hb)
 clear eW
 clear HK
 clear HB
 have eW:=lJ
 have HK:=lK
 have HB:=qb
 clear lJ lK qb
 refine hK.out _ _ ⟨ao2,ao3⟩ (fun hHeld=>?_)
 clear hK K
 refine rL (a':=?_) ?_ ?_
 rotate_left
 ·show Act.put _ (some 24) _=_
  simp only [Act.put,List.setIfInBounds_toArray,List.set_cons_zero,List.set_cons_succ,cU,dh]
  rfl
 refine cO (i:=12) (N:=some 2) #[true,true,true,true,true,true,true,true,true,true,true,true,true,false] rfl rfl (cW iE.out aq) (fun _ _ _ h=>h) (Or.inl ⟨by rfl,dK⟩) dL ?_
 refine cO (i:=13) (N:=some 3) #[true,true,true,true,true,true,true,true,true,true,true,true,true,true] rfl rfl (cW iE.out aq) (fun _ _ _ h=>h) (Or.inl ⟨by rfl,dK⟩) dL ?_
 refine vU (qC iE.out aq) ?_
 try go_wp2
 go_ret2
 exact ⟨cH,gz,gy,fo⟩
def ji.f (a0:Int):Option (Bool):=(jS.f a0).bind fun t133=>(if t133=true then (some true) else ((mh.f a0).bind fun t134=>(if t134=true then (some true) else ((strings_IndexByte.f (⟨#[33,35,36,37,38,39,42,43,45,47,61,63,94,95,96,123,124,125,126]⟩:ByteArray) a0).bind fun t135=>(some (decide (t135≥0)))))))
theorem ji.calls (a0:Int) (r:Bool) (w:World) (h:ji.f a0=some r):
 Calls Tryz.prog 120 #[.int .u8 a0] w fun e w'=>e= .returned (.bool r)∧iC w w':=by
 have H:((jS.f a0).bind fun t133=>(if t133=true then (some true) else ((mh.f a0).bind fun t134=>(if t134=true then (some true) else ((strings_IndexByte.f (⟨#[33,35,36,37,38,39,42,43,45,47,61,63,94,95,96,123,124,125,126]⟩:ByteArray) a0).bind fun t135=>(some (decide (t135≥0))))))))=some r:=h
 clear h
 obtain ⟨t133,A2,H⟩:=bd_ H
 by_cases c3:t133=true
 ·subst c3
  rw [if_pos rfl] at H
  obtain rfl:=Option.some.inj H
  go_enter Tryz.func120,Tryz.ntmps120
  go_wp2_with (first|((with_reducible refine aK (f:=157) rfl ?_);refine bU (some 4) rfl rfl Tryz.func157 aq rfl #[.int .u8 a0] rfl cz ?_;(with_reducible refine (jS.calls a0 true _ A2.out).mono ?_);rintro e w' ⟨rfl,⟨nd,rfl⟩⟩;refine ⟨_,rfl,?_⟩))
  go_ret
  exact ⟨b9,dJ⟩
 ·replace c3:=Bool.eq_false_iff.mpr c3
  subst c3
  rw [if_neg (show ¬ (false=true) by decide)] at H
  obtain ⟨t134,A4,H⟩:=bd_ H
  by_cases c5:t134=true
  ·subst c5
   rw [if_pos rfl] at H
   obtain rfl:=Option.some.inj H
   go_enter Tryz.func120,Tryz.ntmps120
   go_wp2_with (first|((with_reducible refine aK (f:=157) rfl ?_);refine bU (some 4) rfl rfl Tryz.func157 aq rfl #[.int .u8 a0] rfl cz ?_;(with_reducible refine (jS.calls a0 false _ A2.out).mono ?_);rintro e w' ⟨rfl,⟨nd,rfl⟩⟩;refine ⟨_,rfl,?_⟩)|(go_at_call 158;(with_reducible refine (mh.calls a0 true _ A4.out).mono ?_);rintro e w' ⟨rfl,⟨nd,rfl⟩⟩))
   go_ret
   exact ⟨b9,dJ⟩
  ·replace c5:=Bool.eq_false_iff.mpr c5
   subst c5
   rw [if_neg (show ¬ (false=true) by decide)] at H
   obtain ⟨t135,A6,H⟩:=bd_ H
   obtain rfl:=Option.some.inj H
   go_enter Tryz.func120,Tryz.ntmps120
   go_wp2_with (first|((with_reducible refine aK (f:=157) rfl ?_);refine bU (some 4) rfl rfl Tryz.func157 aq rfl #[.int .u8 a0] rfl cz ?_;(with_reducible refine (jS.calls a0 false _ A2.out).mono ?_);rintro e w' ⟨rfl,⟨nd,rfl⟩⟩;refine ⟨_,rfl,?_⟩)|(go_at_call 158;(with_reducible refine (mh.calls a0 false _ A4.out).mono ?_);rintro e w' ⟨rfl,⟨nd,rfl⟩⟩)|(go_at_call 159;(with_reducible refine (strings_IndexByte.calls (⟨#[33,35,36,37,38,39,42,43,45,47,61,63,94,95,96,123,124,125,126]⟩:ByteArray) a0 t135 _ A6.out).mono ?_);rintro e w' ⟨rfl,⟨nd,rfl⟩⟩))
   go_ret
   exact ⟨b9,dJ⟩
def bA.l0:Nat→Int→ByteArray→Int→Option (ByteArray×Bool×ByteArray×Int)
 | 0,_,_,_ =>none
 |k + 1,x6,iJ,fY=>if fY < (iJ.size:Int) then (if 0≤fY then ((ji.f (bt iJ fY)).bind fun t136=>(if t136=true then (bA.l0 k x6 iJ (wrap64 (fY + 1))) else (if 0≤x6 then (if x6≤fY then (if fY≤(iJ.size:Int) then (some (iJ.extract (x6:Int).toNat (fY:Int).toNat,decide (fY > x6),iJ,fY)) else (none)) else (none)) else (none)))) else (none)) else (if 0≤x6 then (if x6≤fY then (if fY≤(iJ.size:Int) then (some (iJ.extract (x6:Int).toNat (fY:Int).toNat,decide (fY > x6),iJ,fY)) else (none)) else (none)) else (none))
def bA.f (k:Nat) (fB:ByteArray) (eA:Int):Option (ByteArray×Bool×ByteArray×Int):=bA.l0 k eA fB eA
theorem bA.dF:∀ k,(∀ y0 y1 y2,bL (bA.l0 k y0 y1 y2) (bA.l0 (k + 1) y0 y1 y2))
 | 0=>fun _ _ _ r h=>by simp [bA.l0] at h
 |k + 1=>by
  have fV:=bA.dF k
  ·intro y0 y1 y2
   unfold bA.l0
   repeat' first
   |(with_reducible first|exact fV _ _ _|exact bL.refl _|exact bL.none _|refine bL.ite ?_ ?_|refine bL.bind ?_ (fun _ =>?_))
   |exact fV _ _ _
   |exact bL.none _
   |refine bL.ite ?_ ?_
   |refine bL.bind ?_ (fun _ =>?_)
theorem bA.mono:∀ a0 a1 k,bL (bA.f k a0 a1) (bA.f (k + 1) a0 a1):=by
 intro a0 a1 k
 have fV:=bA.dF k
 unfold bA.f
 repeat' first
  |(with_reducible first|exact fV _ _ _|exact bL.refl _|exact bL.none _|refine bL.ite ?_ ?_|refine bL.bind ?_ (fun _ =>?_))
  |exact fV _ _ _
  |exact bL.none _
  |refine bL.ite ?_ ?_
  |refine bL.bind ?_ (fun _ =>?_)
theorem bA.calls (k:Nat) (g:Nat) (fB:ByteArray) (eA:Int) (r1:ByteArray) (r2:Bool) (r3:ByteArray) (r4:Int) (w0 w:World) (hI:aD w0 w g fB eA) (hB:Below w0.heap.size w0 w) (h:bA.f k fB eA=some (r1,r2,r3,r4)):
 Calls Tryz.prog 119 #[.pointer (some ⟨g,0,none⟩),.func (.func 120) #[] #[]] w fun e w'=>e= .returned (.tuple #[.string r1,.bool r2])∧aD w0 w' g r3 r4∧Below w0.heap.size w0 w'∧bM w w' g none:=by
 have eW:=aa.mk hI
 have HK:=aa.mk (bM.refl w g none)
 have HL:=aa.mk hB.size
 clear hI
 have UI:=aa.mk hB.size
 have HB:=aa.mk hB
 clear hB
 have H:(bA.l0 k eA fB eA)=some (r1,r2,r3,r4):=h
 clear h
 have H':=aa.mk H
 clear H
 obtain ⟨wL,Vu⟩:=eW.out
 have N6:=dU wL
 have N7:=dP wL
 have N8:=af wL 0
 have N9:=af wL 1
 clear wL Vu
 go_enter Tryz.func119,Tryz.ntmps119
 go_wp2
 repeat (go_quiet (fail);try go_wp2)
 go_loopg [] k (fun kq w'=>∃ (cm:ByteArray) (bW:Int),aa (bA.l0 kq eA cm bW=some (r1,r2,r3,r4))∧aa (kq≤k)∧aa (aD w0 w' g cm bW)∧aa (bM w w' g none)∧aa (Below w0.heap.size w0 w'))
 case atStart=>exact ⟨(fB),(eA),H',⟨Nat.le_refl _⟩,⟨gz⟩,⟨fo⟩,⟨gy⟩⟩
 case round=>
  clear H'
  obtain ⟨cm,bW,HA,p9,eW,HK,HB⟩:=hrel
  cases gk with
  |zero=>exact absurd HA.out (by simp [bA.l0])
  |succ k1=>
   have H:=HA.out
   clear HA
   simp only [bA.l0] at H
   by_cases c4:bW < (cm.size:Int)
   ·rw [if_pos c4] at H
    have nB:=decide_eq_true c4
    clear c4
    obtain ⟨c5,H⟩:=iA H
    have lF:=decide_eq_true c5
    clear c5
    obtain ⟨t136,A7,H⟩:=bd_ H
    by_cases c8:t136=true
    ·subst c8
     rw [if_pos rfl] at H
     have H':=aa.mk H
     clear H
     obtain ⟨pQ,Ju⟩:=eW.out
     have rG:=dU pQ
     have rH:=dP pQ
     have rI:=af pQ 0
     have rJ:=af pQ 1
     clear pQ Ju
     have p6: 0≤(bW:Int):=of_decide_eq_true bp
     have q6:bW < (cm.size:Int):=of_decide_eq_true bp
     have hx6:=dA cm bW
     replace p6:=eq_true p6
     replace q6:=eq_true q6
     go_wp2_with (first|(go_at_call 120;(with_reducible refine (ji.calls (bt cm bW) true _ A7.out).mono ?_);rintro e w' ⟨rfl,⟨nd,rfl⟩⟩;(try first|exact ⟨rfl,_,World.drewN_drewN _ _ _⟩|exact ⟨rfl,_,Eq.trans (World.drewN_drewN _ _ _) (congrArg (World.drewN _) (Nat.add_assoc _ _ _))⟩)))
     repeat (go_quiet (first|(go_at_call 120;(with_reducible refine (ji.calls (bt cm bW) true _ A7.out).mono ?_);rintro e w' ⟨rfl,⟨nd,rfl⟩⟩;(try first|exact ⟨rfl,_,World.drewN_drewN _ _ _⟩|exact ⟨rfl,_,Eq.trans (World.drewN_drewN _ _ _) (congrArg (World.drewN _) (Nat.add_assoc _ _ _))⟩)));try go_wp2_with (first|(go_at_call 120;(with_reducible refine (ji.calls (bt cm bW) true _ A7.out).mono ?_);rintro e w' ⟨rfl,⟨nd,rfl⟩⟩;(try first|exact ⟨rfl,_,World.drewN_drewN _ _ _⟩|exact ⟨rfl,_,Eq.trans (World.drewN_drewN _ _ _) (congrArg (World.drewN _) (Nat.add_assoc _ _ _))⟩))))
     go_roundg k1
     case measure=>have:=p9.out;omega
     case rel=>exact ⟨(cm),(wrap64 (bW + 1)),H',⟨je⟩,⟨gz⟩,⟨fo⟩,⟨gy⟩⟩
    ·replace c8:=Bool.eq_false_iff.mpr c8
     subst c8
     rw [if_neg (show ¬ (false=true) by decide)] at H
     obtain ⟨c10,H⟩:=iA H
     have pR:=eq_true c10
     have AK:=decide_eq_true c10
     clear c10
     obtain ⟨c11,H⟩:=iA H
     have oC:=eq_true c11
     have wM:=decide_eq_true c11
     clear c11
     obtain ⟨c12,H⟩:=iA H
     have zg:=eq_true c12
     have LK:=decide_eq_true c12
     clear c12
     simp only [Option.some.injEq,Prod.mk.injEq] at H
     obtain ⟨rfl,rfl,rfl,rfl⟩:=H
     obtain ⟨qR,LL⟩:=eW.out
     have qD:=dU qR
     have qE:=dP qR
     have qF:=af qR 0
     have qG:=af qR 1
     clear qR LL
     have p6: 0≤(bW:Int):=of_decide_eq_true bp
     have q6:bW < (cm.size:Int):=of_decide_eq_true bp
     have hx6:=dA cm bW
     replace p6:=eq_true p6
     replace q6:=eq_true q6
     go_wp2_with (first|(go_at_call 120;(with_reducible refine (ji.calls (bt cm bW) false _ A7.out).mono ?_);rintro e w' ⟨rfl,⟨nd,rfl⟩⟩;(try first|exact ⟨rfl,_,World.drewN_drewN _ _ _⟩|exact ⟨rfl,_,Eq.trans (World.drewN_drewN _ _ _) (congrArg (World.drewN _) (Nat.add_assoc _ _ _))⟩)))
     repeat (go_quiet (first|(go_at_call 120;(with_reducible refine (ji.calls (bt cm bW) false _ A7.out).mono ?_);rintro e w' ⟨rfl,⟨nd,rfl⟩⟩;(try first|exact ⟨rfl,_,World.drewN_drewN _ _ _⟩|exact ⟨rfl,_,Eq.trans (World.drewN_drewN _ _ _) (congrArg (World.drewN _) (Nat.add_assoc _ _ _))⟩)));try go_wp2_with (first|(go_at_call 120;(with_reducible refine (ji.calls (bt cm bW) false _ A7.out).mono ?_);rintro e w' ⟨rfl,⟨nd,rfl⟩⟩;(try first|exact ⟨rfl,_,World.drewN_drewN _ _ _⟩|exact ⟨rfl,_,Eq.trans (World.drewN_drewN _ _ _) (congrArg (World.drewN _) (Nat.add_assoc _ _ _))⟩))))
     go_ret2
     exact ⟨cH,gz,gy,fo⟩
   ·rw [if_neg c4] at H
    have nB:=decide_eq_false c4
    clear c4
    obtain ⟨c14,H⟩:=iA H
    have CT:=eq_true c14
    have LM:=decide_eq_true c14
    clear c14
    obtain ⟨c15,H⟩:=iA H
    have tL:=eq_true c15
    have CU:=decide_eq_true c15
    clear c15
    obtain ⟨c16,H⟩:=iA H
    have qT:=eq_true c16
    have CV:=decide_eq_true c16
    clear c16
    simp only [Option.some.injEq,Prod.mk.injEq] at H
    obtain ⟨rfl,rfl,rfl,rfl⟩:=H
    obtain ⟨qU,LN⟩:=eW.out
    have Jv:=dU qU
    have Jw:=dP qU
    have Jx:=af qU 0
    have Jy:=af qU 1
    clear qU LN
    go_wp2
    repeat (go_quiet (fail);try go_wp2)
    go_ret2
    exact ⟨cH,gz,gy,fo⟩
def eZ.f (k:Nat) (fB:ByteArray) (eA:Int):Option (Bool×ByteArray×Int):=(bA.f k fB eA).bind fun Ff=>(some (Ff.2.1,Ff.2.2.1,Ff.2.2.2))
theorem eZ.mono:∀ a0 a1 k,bL (eZ.f k a0 a1) (eZ.f (k + 1) a0 a1):=by
 intro a0 a1 k
 unfold eZ.f
 repeat' first
  |(with_reducible first|exact bA.mono _ _ _|exact bL.refl _|exact bL.none _|refine bL.ite ?_ ?_|refine bL.bind ?_ (fun _ =>?_))
  |exact bA.mono _ _ _
  |exact bL.none _
  |refine bL.ite ?_ ?_
  |refine bL.bind ?_ (fun _ =>?_)
theorem eZ.calls (k:Nat) (g:Nat) (fB:ByteArray) (eA:Int) (r1:Bool) (r2:ByteArray) (r3:Int) (w0 w:World) (hI:aD w0 w g fB eA) (hB:Below w0.heap.size w0 w) (h:eZ.f k fB eA=some (r1,r2,r3)):
 Calls Tryz.prog 68 #[.pointer (some ⟨g,0,none⟩)] w fun e w'=>e= .returned (.bool r1)∧aD w0 w' g r2 r3∧Below w0.heap.size w0 w'∧bM w w' g none:=by
 have eW:=aa.mk hI
 have HK:=aa.mk (bM.refl w g none)
 have HL:=aa.mk hB.size
 clear hI
 have UI:=aa.mk hB.size
 have HB:=aa.mk hB
 clear hB
 have H:((bA.f k fB eA).bind fun Ff=>(some (Ff.2.1,Ff.2.2.1,Ff.2.2.2)))=some (r1,r2,r3):=h
 clear h
 obtain ⟨⟨t137,t138,t139,t140⟩,A2,H⟩:=bd_ H
 (try dsimp only at H)
 simp only [Option.some.injEq,Prod.mk.injEq] at H
 obtain ⟨rfl,rfl,rfl⟩:=H
 go_enter Tryz.func68,Tryz.ntmps68
 go_wp2_with (first|((with_reducible refine aK (f:=119) rfl ?_);refine bU (some 7) rfl rfl Tryz.func119 aq rfl #[.pointer (some ⟨g,0,none⟩),.func (.func 120) #[] #[]] rfl cz ?_;(with_reducible refine (bA.calls k g fB eA t137 t138 t139 t140 w0 _ ?aT ?cw A2.out).mono ?_);(case aT=>repeat (first|(with_reducible first|exact eW.out|apply aD.alloc|apply aD.drewN|apply aD.drew|apply aD.gm|apply aD.gi)|exact eW.out));(case cw=>repeat (first|(with_reducible first|exact HB.out|apply aV|apply aN|apply bf|refine aZ ?_ (aD.ge eW.out))|exact HB.out));rintro e w3 ⟨rfl,hi,hb,hk⟩;refine ⟨_,rfl,?_⟩;replace HK:=aa.mk (bM.trans fo hk (.inl rfl));replace HB:=aa.mk (hb);replace eW:=aa.mk (hi);(try clear hb);(try clear hk);(try clear hi)))
 go_ret
 exact ⟨cH,gz,gy,fo⟩
def dD.f (fB:ByteArray) (eA:Int):Option (Int×ByteArray×Int):=if eA < (fB.size:Int) then (if 0≤eA then (some (bt fB eA,fB,eA)) else (none)) else (some (0,fB,eA))
theorem dD.calls (g:Nat) (fB:ByteArray) (eA:Int) (r1:Int) (r2:ByteArray) (r3:Int) (w0 w:World) (hI:aD w0 w g fB eA) (hB:Below w0.heap.size w0 w) (h:dD.f fB eA=some (r1,r2,r3)):
 Calls Tryz.prog 115 #[.pointer (some ⟨g,0,none⟩)] w fun e w'=>e= .returned (.int .u8 r1)∧aD w0 w' g r2 r3∧Below w0.heap.size w0 w'∧bM w w' g none:=by
 have eW:=aa.mk hI
 have HK:=aa.mk (bM.refl w g none)
 have HL:=aa.mk hB.size
 clear hI
 have UI:=aa.mk hB.size
 have HB:=aa.mk hB
 clear hB
 have H:(if eA < (fB.size:Int) then (if 0≤eA then (some (bt fB eA,fB,eA)) else (none)) else (some (0,fB,eA)))=some (r1,r2,r3):=h
 clear h
 by_cases c2:eA < (fB.size:Int)
 ·rw [if_pos c2] at H
  have sP:=decide_eq_true c2
  clear c2
  obtain ⟨c3,H⟩:=iA H
  have mg:=decide_eq_true c3
  clear c3
  simp only [Option.some.injEq,Prod.mk.injEq] at H
  obtain ⟨rfl,rfl,rfl⟩:=H
  obtain ⟨Vw,ao4⟩:=eW.out
  have Ch:=dU Vw
  have Ci:=dP Vw
  have Cj:=af Vw 0
  have Ck:=af Vw 1
  clear Vw ao4
  have p4: 0≤(eA:Int):=of_decide_eq_true bp
  have q4:eA < (fB.size:Int):=of_decide_eq_true bp
  have Yv:=dA fB eA
  replace p4:=eq_true p4
  replace q4:=eq_true q4
  go_enter Tryz.func115,Tryz.ntmps115
  go_wp2
  repeat (go_quiet (fail);try go_wp2)
  go_ret
  exact ⟨cH,gz,gy,fo⟩
 ·rw [if_neg c2] at H
  have sP:=decide_eq_false c2
  clear c2
  simp only [Option.some.injEq,Prod.mk.injEq] at H
  obtain ⟨rfl,rfl,rfl⟩:=H
  obtain ⟨Vx,ao5⟩:=eW.out
  have Oa:=dU Vx
  have Ob:=dP Vx
  have Oc:=af Vx 0
  have Od:=af Vx 1
  clear Vx ao5
  go_enter Tryz.func115,Tryz.ntmps115
  go_wp2
  repeat (go_quiet (fail);try go_wp2)
  go_ret
  exact ⟨cH,gz,gy,fo⟩
def aW.l0:Nat→Int→ByteArray→Int→Option (Bool×ByteArray×Int)
 | 0,_,_,_ =>none
 |k + 1,x1,iJ,fY=>(eZ.f k iJ fY).bind fun LR=>(if LR.1=true then ((bV.f LR.2.1 LR.2.2 x1).bind fun LS=>(if LS.1=true then (aW.l0 k x1 LS.2.1 LS.2.2) else (some (true,LS.2.1,LS.2.2)))) else (some (false,LR.2.1,LR.2.2)))
def aW.f (k:Nat) (fB:ByteArray) (eA:Int) (a1:Int):Option (Bool×ByteArray×Int):=aW.l0 k a1 fB eA
theorem aW.dF:∀ k,(∀ y0 y1 y2,bL (aW.l0 k y0 y1 y2) (aW.l0 (k + 1) y0 y1 y2))
 | 0=>fun _ _ _ r h=>by simp [aW.l0] at h
 |k + 1=>by
  have fV:=aW.dF k
  ·intro y0 y1 y2
   unfold aW.l0
   repeat' first
   |(with_reducible first|exact fV _ _ _|exact eZ.mono _ _ _|exact bL.refl _|exact bL.none _|refine bL.ite ?_ ?_|refine bL.bind ?_ (fun _ =>?_))
   |exact fV _ _ _
   |exact eZ.mono _ _ _
   |exact bL.none _
   |refine bL.ite ?_ ?_
   |refine bL.bind ?_ (fun _ =>?_)
theorem aW.mono:∀ a0 a1 a2 k,bL (aW.f k a0 a1 a2) (aW.f (k + 1) a0 a1 a2):=by
 intro a0 a1 a2 k
 have fV:=aW.dF k
 unfold aW.f
 repeat' first
  |(with_reducible first|exact fV _ _ _|exact eZ.mono _ _ _|exact bL.refl _|exact bL.none _|refine bL.ite ?_ ?_|refine bL.bind ?_ (fun _ =>?_))
  |exact fV _ _ _
  |exact eZ.mono _ _ _
  |exact bL.none _
  |refine bL.ite ?_ ?_
  |refine bL.bind ?_ (fun _ =>?_)
theorem aW.calls (k:Nat) (g:Nat) (fB:ByteArray) (eA:Int) (a1:Int) (r1:Bool) (r2:ByteArray) (r3:Int) (w0 w:World) (hI:aD w0 w g fB eA) (hB:Below w0.heap.size w0 w) (h:aW.f k fB eA a1=some (r1,r2,r3)):
 Calls Tryz.prog 67 #[.pointer (some ⟨g,0,none⟩),.int .u8 a1,.func (.func 68) #[.pointer (some ⟨g,0,none⟩)] #[]] w fun e w'=>e= .returned (.bool r1)∧aD w0 w' g r2 r3∧Below w0.heap.size w0 w'∧bM w w' g none:=by
 have eW:=aa.mk hI
 have HK:=aa.mk (bM.refl w g none)
 have HL:=aa.mk hB.size
 clear hI
 have UI:=aa.mk hB.size
 have HB:=aa.mk hB
 clear hB
 have H:(aW.l0 k a1 fB eA)=some (r1,r2,r3):=h
 clear h
 have H':=aa.mk H
 clear H
 go_enter Tryz.func67,Tryz.ntmps67
 go_wp2
 go_loopg [] k (fun kq w'=>∃ (cm:ByteArray) (bW:Int),aa (aW.l0 kq a1 cm bW=some (r1,r2,r3))∧aa (kq≤k)∧aa (aD w0 w' g cm bW)∧aa (bM w w' g none)∧aa (Below w0.heap.size w0 w'))
 case atStart=>exact ⟨(fB),(eA),H',⟨Nat.le_refl _⟩,⟨gz⟩,⟨fo⟩,⟨gy⟩⟩
 case round=>
  clear H'
  obtain ⟨cm,bW,HA,p9,eW,HK,HB⟩:=hrel
  cases gk with
  |zero=>exact absurd HA.out (by simp [aW.l0])
  |succ k1=>
   have H:=HA.out
   clear HA
   simp only [aW.l0] at H
   obtain ⟨⟨t141,t142,t143⟩,A4,H⟩:=bd_ H
   (try dsimp only at H)
   by_cases c5:t141=true
   ·subst c5
    rw [if_pos rfl] at H
    obtain ⟨⟨t144,t145,t146⟩,A6,H⟩:=bd_ H
    (try dsimp only at H)
    by_cases c7:t144=true
    ·subst c7
     rw [if_pos rfl] at H
     have H':=aa.mk H
     clear H
     go_wp2_with (first|(go_at_call 68;(with_reducible refine (eZ.calls k1 g cm bW true t142 t143 w0 _ ?aT ?cw A4.out).mono ?_);(case aT=>repeat (first|(with_reducible first|exact eW.out|apply aD.alloc|apply aD.drewN|apply aD.drew|apply aD.gm|apply aD.gi)|exact eW.out));(case cw=>repeat (first|(with_reducible first|exact HB.out|apply aV|apply aN|apply bf|refine aZ ?_ (aD.ge eW.out))|exact HB.out));rintro e w8 ⟨rfl,hi,hb,hk⟩;replace HK:=aa.mk (bM.trans fo hk (.inl rfl));replace HB:=aa.mk (hb);replace eW:=aa.mk (hi);(try clear hb);(try clear hk);(try clear hi))|((with_reducible refine aK (f:=56) rfl ?_);refine bU (some 11) rfl rfl Tryz.func56 aq rfl #[.pointer (some ⟨g,0,none⟩),.int .u8 a1] rfl cz ?_;(with_reducible refine (bV.calls g t142 t143 a1 true t145 t146 w0 _ ?aT ?cw A6.out).mono ?_);(case aT=>repeat (first|(with_reducible first|exact eW.out|apply aD.alloc|apply aD.drewN|apply aD.drew|apply aD.gm|apply aD.gi)|exact eW.out));(case cw=>repeat (first|(with_reducible first|exact HB.out|apply aV|apply aN|apply bf|refine aZ ?_ (aD.ge eW.out))|exact HB.out));rintro e w9 ⟨rfl,hi,hb,hk⟩;refine ⟨_,rfl,?_⟩;replace HK:=aa.mk (bM.trans fo hk (.inl rfl));replace HB:=aa.mk (hb);replace eW:=aa.mk (hi);(try clear hb);(try clear hk);(try clear hi)))
     go_roundg k1
     case measure=>have:=p9.out;omega
     case rel=>exact ⟨(t145),(t146),H',⟨je⟩,⟨gz⟩,⟨fo⟩,⟨gy⟩⟩
    ·replace c7:=Bool.eq_false_iff.mpr c7
     subst c7
     rw [if_neg (show ¬ (false=true) by decide)] at H
     simp only [Option.some.injEq,Prod.mk.injEq] at H
     obtain ⟨rfl,rfl,rfl⟩:=H
     go_wp2_with (first|(go_at_call 68;(with_reducible refine (eZ.calls k1 g cm bW true t142 t143 w0 _ ?aT ?cw A4.out).mono ?_);(case aT=>repeat (first|(with_reducible first|exact eW.out|apply aD.alloc|apply aD.drewN|apply aD.drew|apply aD.gm|apply aD.gi)|exact eW.out));(case cw=>repeat (first|(with_reducible first|exact HB.out|apply aV|apply aN|apply bf|refine aZ ?_ (aD.ge eW.out))|exact HB.out));rintro e um ⟨rfl,hi,hb,hk⟩;replace HK:=aa.mk (bM.trans fo hk (.inl rfl));replace HB:=aa.mk (hb);replace eW:=aa.mk (hi);(try clear hb);(try clear hk);(try clear hi))|((with_reducible refine aK (f:=56) rfl ?_);refine bU (some 11) rfl rfl Tryz.func56 aq rfl #[.pointer (some ⟨g,0,none⟩),.int .u8 a1] rfl cz ?_;(with_reducible refine (bV.calls g t142 t143 a1 false t145 t146 w0 _ ?aT ?cw A6.out).mono ?_);(case aT=>repeat (first|(with_reducible first|exact eW.out|apply aD.alloc|apply aD.drewN|apply aD.drew|apply aD.gm|apply aD.gi)|exact eW.out));(case cw=>repeat (first|(with_reducible first|exact HB.out|apply aV|apply aN|apply bf|refine aZ ?_ (aD.ge eW.out))|exact HB.out));rintro e UJ ⟨rfl,hi,hb,hk⟩;refine ⟨_,rfl,?_⟩;replace HK:=aa.mk (bM.trans fo hk (.inl rfl));replace HB:=aa.mk (hb);replace eW:=aa.mk (hi);(try clear hb);(try clear hk);(try clear hi)))
     go_ret
     exact ⟨cH,gz,gy,fo⟩
   ·replace c5:=Bool.eq_false_iff.mpr c5
    subst c5
    rw [if_neg (show ¬ (false=true) by decide)] at H
    simp only [Option.some.injEq,Prod.mk.injEq] at H
    obtain ⟨rfl,rfl,rfl⟩:=H
    go_wp2_with (first|(go_at_call 68;(with_reducible refine (eZ.calls k1 g cm bW false t142 t143 w0 _ ?aT ?cw A4.out).mono ?_);(case aT=>repeat (first|(with_reducible first|exact eW.out|apply aD.alloc|apply aD.drewN|apply aD.drew|apply aD.gm|apply aD.gi)|exact eW.out));(case cw=>repeat (first|(with_reducible first|exact HB.out|apply aV|apply aN|apply bf|refine aZ ?_ (aD.ge eW.out))|exact HB.out));rintro e Ld ⟨rfl,hi,hb,hk⟩;replace HK:=aa.mk (bM.trans fo hk (.inl rfl));replace HB:=aa.mk (hb);replace eW:=aa.mk (hi);(try clear hb);(try clear hk);(try clear hi)))
    go_ret
    exact ⟨cH,gz,gy,fo⟩
end Go.Proofs.YtokpnfljjjjikaaGreatDoor.mY
