import Derived.Test.YtbjjaaodfbjkfaaGreatDoorQQux5
import Derived.Test.YtbjjaaodfbjkfaaGreatDoorESmall
import Derived.Test.YtbjjaaodfbjkfaaGreatDoorEStr
set_option maxHeartbeats 8000000
set_option maxRecDepth 100000
namespace Go.Proofs.YtbjjaaodfbjkfaaGreatDoor.ow
open Go.RowKit Go.Proofs.YtbjjaaodfbjkfaaGreatDoor.zi Go.Proofs.ak.bY Go.Proofs.ak.dU Go.Proofs.ak.dJ
attribute [local go_sem] jt ju kH kI iw iy jv jw
set_option linter.unusedVariables false
set_option linter.unusedSimpArgs false
def bg.l0:Nat→Int→ByteArray→Int→Option (Bool×ByteArray×Int)
 | 0,_,_,_ =>none
 |k + 1,x1,xu,rH=>(fS.f k xu rH).bind fun Mh=>(if Mh.1=true then ((jO.f Mh.2.1 Mh.2.2 x1).bind fun Mi=>(if Mi.1=true then (bg.l0 k x1 Mi.2.1 Mi.2.2) else (some (true,Mi.2.1,Mi.2.2)))) else (some (false,Mh.2.1,Mh.2.2)))
def bg.f (k:Nat) (kK:ByteArray) (iK:Int) (a1:Int):Option (Bool×ByteArray×Int):=bg.l0 k a1 kK iK
theorem bg.eY:∀ k,(∀ y0 y1 y2,fP (bg.l0 k y0 y1 y2) (bg.l0 (k + 1) y0 y1 y2))
 | 0=>fun _ _ _ r h=>by simp [bg.l0] at h
 |k + 1=>by
  have nY:=bg.eY k
  ·intro y0 y1 y2
   unfold bg.l0
   repeat' (with_reducible first|exact nY _ _ _|exact fS.mono _ _ _|exact fP.refl _|refine fP.ite ?_ ?_|refine fP.bind ?_ (fun _ =>?_))
theorem bg.mono:∀ a0 a1 a2 k,fP (bg.f k a0 a1 a2) (bg.f (k + 1) a0 a1 a2):=by
 intro a0 a1 a2 k
 have nY:=bg.eY k
 unfold bg.f
 repeat' (with_reducible exact nY _ _ _)
theorem bg.calls (k:Nat) (g:Nat) (kK:ByteArray) (iK:Int) (a1:Int) (r1:Bool) (r2:ByteArray) (r3:Int) (w0 w:World) (hI:eW w0 w g kK iK) (hB:Below w0.heap.size w0 w) (h:bg.f k kK iK a1=some (r1,r2,r3)):
 Calls Tryz.prog 137 #[.pointer (some ⟨g,0,none⟩),.int .u8 a1,.func (.func 138) #[.pointer (some ⟨g,0,none⟩)] #[]] w fun e w'=>e= .returned (.bool r1)∧eW w0 w' g r2 r3∧Below w0.heap.size w0 w'∧dW w w' g none:=by
 have sU:=ah.mk hI
 have HK:=ah.mk (dW.refl w g none)
 have HL:=ah.mk hB.size
 clear hI
 have HW0:=ah.mk hB.size
 have HB:=ah.mk hB
 clear hB
 have H:(bg.l0 k a1 kK iK)=some (r1,r2,r3):=h
 clear h
 have H':=ah.mk H
 clear H
 go_enter Tryz.func137,Tryz.ntmps137
 go_wp2
 go_loopg [] k (fun kq w'=>∃ (lq:ByteArray) (jW:Int),ah (bg.l0 kq a1 lq jW=some (r1,r2,r3))∧ah (kq≤k)∧ah (eW w0 w' g lq jW)∧ah (dW w w' g none)∧ah (Below w0.heap.size w0 w'))
 case atStart=>exact ⟨(kK),(iK),H',⟨Nat.le_refl _⟩,⟨tU⟩,⟨kU⟩,⟨aI⟩⟩
 case round=>
  clear H'
  obtain ⟨lq,jW,HA,oI,sU,HK,HB⟩:=hrel
  cases gk with
  |zero=>exact absurd HA.out (by simp [bg.l0])
  |succ k1=>
   have H:=HA.out
   clear HA
   simp only [bg.l0] at H
   obtain ⟨⟨t143,t144,t145⟩,A4,H⟩:=bd_ H
   (try dsimp only at H)
   by_cases c5:t143=true
   ·subst c5
    rw [if_pos rfl] at H
    obtain ⟨⟨t146,t147,t148⟩,A6,H⟩:=bd_ H
    (try dsimp only at H)
    by_cases c7:t146=true
    ·subst c7
     rw [if_pos rfl] at H
     have H':=ah.mk H
     clear H
     go_wp2_with (first|(go_at_call 138;(with_reducible refine (fS.calls k1 g lq jW true t144 t145 w0 _ ?bk ?bI A4.out).mono ?_);(case bk=>repeat ((with_reducible exact sU.out)));(case bI=>repeat ((with_reducible exact HB.out)));rintro e w8 ⟨rfl,hi,hb,hk⟩;replace HK:=ah.mk (dW.trans kU hk (.inl rfl));replace HB:=ah.mk (hb);replace sU:=ah.mk (hi);(try clear hb);(try clear hk);(try clear hi))|((with_reducible refine bE (f:=179) rfl ?_);refine dg (some 11) rfl rfl Tryz.func179 au rfl #[.pointer (some ⟨g,0,none⟩),.int .u8 a1] rfl dM ?_;(with_reducible refine (jO.calls g t144 t145 a1 true t147 t148 w0 _ ?bk ?bI A6.out).mono ?_);(case bk=>repeat ((with_reducible exact sU.out)));(case bI=>repeat ((with_reducible exact HB.out)));rintro e w9 ⟨rfl,hi,hb,hk⟩;refine ⟨_,rfl,?_⟩;replace HK:=ah.mk (dW.trans kU hk (.inl rfl));replace HB:=ah.mk (hb);replace sU:=ah.mk (hi);(try clear hb);(try clear hk);(try clear hi)))
     go_roundg k1
     case measure=>have:=oI.out;omega
     case rel=>exact ⟨(t147),(t148),H',⟨lS⟩,⟨tU⟩,⟨kU⟩,⟨aI⟩⟩
    ·replace c7:=Bool.eq_false_iff.mpr c7
     subst c7
     rw [if_neg (show ¬ (false=true) by decide)] at H
     simp only [Option.some.injEq,Prod.mk.injEq] at H
     obtain ⟨rfl,rfl,rfl⟩:=H
     go_wp2_with (first|(go_at_call 138;(with_reducible refine (fS.calls k1 g lq jW true t144 t145 w0 _ ?bk ?bI A4.out).mono ?_);(case bk=>repeat ((with_reducible exact sU.out)));(case bI=>repeat ((with_reducible exact HB.out)));rintro e qw ⟨rfl,hi,hb,hk⟩;replace HK:=ah.mk (dW.trans kU hk (.inl rfl));replace HB:=ah.mk (hb);replace sU:=ah.mk (hi);(try clear hb);(try clear hk);(try clear hi))|((with_reducible refine bE (f:=179) rfl ?_);refine dg (some 11) rfl rfl Tryz.func179 au rfl #[.pointer (some ⟨g,0,none⟩),.int .u8 a1] rfl dM ?_;(with_reducible refine (jO.calls g t144 t145 a1 false t147 t148 w0 _ ?bk ?bI A6.out).mono ?_);(case bk=>repeat ((with_reducible exact sU.out)));(case bI=>repeat ((with_reducible exact HB.out)));rintro e yj ⟨rfl,hi,hb,hk⟩;refine ⟨_,rfl,?_⟩;replace HK:=ah.mk (dW.trans kU hk (.inl rfl));replace HB:=ah.mk (hb);replace sU:=ah.mk (hi);(try clear hb);(try clear hk);(try clear hi)))
     go_ret
     exact ⟨by rfl,tU,aI,kU⟩
   ·replace c5:=Bool.eq_false_iff.mpr c5
    subst c5
    rw [if_neg (show ¬ (false=true) by decide)] at H
    simp only [Option.some.injEq,Prod.mk.injEq] at H
    obtain ⟨rfl,rfl,rfl⟩:=H
    go_wp2_with ((go_at_call 138;(with_reducible refine (fS.calls k1 g lq jW false t144 t145 w0 _ ?bk ?bI A4.out).mono ?_);(case bk=>repeat ((with_reducible exact sU.out)));(case bI=>repeat ((with_reducible exact HB.out)));rintro e BJ ⟨rfl,hi,hb,hk⟩;replace HK:=ah.mk (dW.trans kU hk (.inl rfl));replace HB:=ah.mk (hb);replace sU:=ah.mk (hi);(try clear hb);(try clear hk);(try clear hi)))
    go_ret
    exact ⟨by rfl,tU,aI,kU⟩
def cP.f (k:Nat) (kK:ByteArray) (iK:Int):Option (ByteArray×Bool×ByteArray×Int):=(bg.f k kK iK 46).bind fun qW=>(if 0≤iK then (if iK≤qW.2.2 then (if qW.2.2≤(qW.2.1.size:Int) then ((fM.f (qW.2.1.extract (iK:Int).toNat (qW.2.2:Int).toNat)).bind fun t152=>(some (t152,qW.1,qW.2.1,qW.2.2))) else (none)) else (none)) else (none))
theorem cP.mono:∀ a0 a1 k,fP (cP.f k a0 a1) (cP.f (k + 1) a0 a1):=by
 intro a0 a1 k
 unfold cP.f
 repeat' (with_reducible first|exact bg.mono _ _ _ _|exact fP.refl _|refine fP.bind ?_ (fun _ =>?_))
def cP.T3:Bool×List (List Nat×List Nat):=(true,[([],[]),([0],[0]),([1],[1]),([2],[2]),([],[]),([],[]),([5],[5]),([6],[6]),([7],[7]),([3,4,8],[3,4,8]),([9],[9]),([],[]),([10,10,0,1,2,3,4,5,6,7,8,9,10],[10]),([11,12,0,1,2,3,4,5,6,7,8,9,10,11,12],[11])])
def cP.B3:List Nat:=[0,1,3,7,0,0,32,96,224,511,1023,0,2047,8191]
theorem cP.aCO:qT .any (opsOf Tryz.f93 3)=cP.T3:=by kernel_rfl
theorem cP.ajq:qM cP.T3.2 cP.B3=true:=by kernel_rfl
theorem cP.calls (k:Nat) (g:Nat) (kK:ByteArray) (iK:Int) (r1:ByteArray) (r2:Bool) (r3:ByteArray) (r4:Int) (w0 w:World) (hI:eW w0 w g kK iK) (hB:Below w0.heap.size w0 w) (h:cP.f k kK iK=some (r1,r2,r3,r4)):
 Calls Tryz.prog 93 #[.pointer (some ⟨g,0,none⟩)] w fun e w'=>e= .returned (.tuple #[.string r1,.bool r2])∧eW w0 w' g r3 r4∧Below w0.heap.size w0 w'∧dW w w' g none:=by
 have sU:=ah.mk hI
 have HK:=ah.mk (dW.refl w g none)
 have HL:=ah.mk hB.size
 clear hI
 have HW0:=ah.mk hB.size
 have HB:=ah.mk hB
 clear hB
 have H:((bg.f k kK iK 46).bind fun qW=>(if 0≤iK then (if iK≤qW.2.2 then (if qW.2.2≤(qW.2.1.size:Int) then ((fM.f (qW.2.1.extract (iK:Int).toNat (qW.2.2:Int).toNat)).bind fun t152=>(some (t152,qW.1,qW.2.1,qW.2.2))) else (none)) else (none)) else (none)))=some (r1,r2,r3,r4):=h
 clear h
 obtain ⟨⟨t149,t150,t151⟩,A2,H⟩:=bd_ H
 (try dsimp only at H)
 obtain ⟨c3,H⟩:=lg H
 have nT:=eq_true c3
 have tZ:=decide_eq_true c3
 clear c3
 obtain ⟨c4,H⟩:=lg H
 have ng:=eq_true c4
 have BC:=decide_eq_true c4
 clear c4
 obtain ⟨c5,H⟩:=lg H
 have qu:=eq_true c5
 have N6:=decide_eq_true c5
 clear c5
 obtain ⟨t152,A6,H⟩:=bd_ H
 simp only [Option.some.injEq,Prod.mk.injEq] at H
 obtain ⟨rfl,rfl,rfl,rfl⟩:=H
 obtain ⟨E2,age⟩:=sU.out
 have JF:=kY E2
 have JG:=kZ E2
 have JH:=aa E2 0
 have JI:=aa E2 1
 clear E2 age
 go_enter Tryz.func93,Tryz.ntmps93
 try go_wp2_with (((with_reducible refine bE (f:=137) rfl ?_);refine dg (some 13) rfl rfl Tryz.func137 au rfl #[.pointer (some ⟨g,0,none⟩),.int .u8 46,.func (.func 138) #[.pointer (some ⟨g,0,none⟩)] #[]] rfl dM ?_;(with_reducible refine (bg.calls k g kK iK 46 t149 t150 t151 w0 _ ?bk ?bI A2.out).mono ?_);(case bk=>repeat ((with_reducible exact sU.out)));(case bI=>repeat ((with_reducible exact HB.out)));rintro e w8 ⟨rfl,hi,hb,hk⟩;refine ⟨_,rfl,?_⟩;replace HK:=ah.mk (dW.trans kU hk (.inl rfl));replace HB:=ah.mk (hb);replace sU:=ah.mk (hi);(try clear hb);(try clear hk);(try clear hi)))
 have jJ:=ah.mk (eW.drew sU.out)
 have jK:=ah.mk (UG HK.out)
 have lV:=ah.mk (gG HB.out)
 clear sU
 clear HK
 clear HB
 have sU:=jJ
 have HK:=jK
 have HB:=lV
 clear jJ jK lV
 refine lU (n:=14) (S:=fun w'=>w'.cell? ⟨g,0,none⟩=some (.string t150)∧w'.cell? ⟨g,1,none⟩=some (.int .i64 t151)) (ds:=[]) #[false,false,false,false,false,false,false,false,false,false,false,false,false,false] au (by rfl) (by rfl) ⟨kY sU.out.1,kZ sU.out.1⟩ (fun hHeld=>?_);refine lG cP.aCO cP.ajq (fun dL sJ=>?_)
 generalize w8.drew=w9 at sU HK HB hHeld ⊢
 refine aQ (i:=0) (N:=some 14) #[true,false,false,false,false,false,false,false,false,false,false,false,false,false] rfl rfl (br dL.out au) (fun _ _ _ h=>h) (Or.inl ⟨by rfl,cJ⟩) cX ?_
 refine aQ (i:=1) (N:=some 15) #[true,true,false,false,false,false,false,false,false,false,false,false,false,false] rfl rfl (br dL.out au) (fun _ _ _ h=>h) (Or.inl ⟨by rfl,cJ⟩) cX ?_
 refine aQ (i:=2) (N:=some 16) #[true,true,true,false,false,false,false,false,false,false,false,false,false,false] rfl rfl (br dL.out au) (fun _ _ _ h=>h) (Or.inl ⟨by rfl,cJ⟩) cX ?_
 refine aQ (i:=4) (N:=some 18) #[true,true,true,false,true,false,false,false,false,false,false,false,false,false] rfl rfl (br dL.out au) (fun _ _ _ h=>h) (Or.inl ⟨by rfl,cJ⟩) cX ?_
 refine aQ (i:=5) (N:=some 19) #[true,true,true,false,true,true,false,false,false,false,false,false,false,false] rfl rfl (br dL.out au) (fun _ _ _ h=>h) (Or.inl ⟨by rfl,cJ⟩) cX ?_
 refine aQ (i:=6) (N:=some 20) #[true,true,true,false,true,true,true,false,false,false,false,false,false,false] rfl rfl (br dL.out au) (fun _ _ _ h=>h) (Or.inl ⟨by rfl,cJ⟩) cX ?_
 refine aQ (i:=7) (N:=some 21) #[true,true,true,false,true,true,true,true,false,false,false,false,false,false] rfl rfl (br dL.out au) (fun _ _ _ h=>h) (Or.inl ⟨by rfl,cJ⟩) cX ?_
 refine aQ (i:=11) (N:=some 25) #[true,true,true,false,true,true,true,true,false,false,false,true,false,false] rfl rfl (br dL.out au) (fun _ _ _ h=>h) (Or.inl ⟨by rfl,cJ⟩) cX ?_
 refine gv (i:=3) (N:=some 17) #[true,true,true,true,true,true,true,true,false,false,false,true,false,false] rfl rfl (fK dL.out sJ.out au) (fun _ _ _ h=>h) (Or.inl ⟨by rfl,(by rintro w' ⟨s0,s1⟩;go_simp;with_reducible rfl)⟩) hHeld cX ?_
 refine gv (i:=8) (N:=some 22) #[true,true,true,true,true,true,true,true,true,false,false,true,false,false] rfl rfl (fK dL.out sJ.out au) (fun _ _ _ h=>h) (Or.inl ⟨by rfl,(by rintro w' ⟨s0,s1⟩;go_simp;with_reducible rfl)⟩) hHeld cX ?_
 refine aQ (i:=9) (N:=some 23) #[true,true,true,true,true,true,true,true,true,true,false,true,false,false] rfl rfl (br dL.out au) (fun _ _ _ h=>h) (Or.inl ⟨by rfl,cJ⟩) cX ?_
 refine pq (i:=10) (N:=some 24) #[true,true,true,true,true,true,true,true,true,true,true,true,false,false] rfl rfl (kF dL.out au) bC (fun K hK=>?_)
 refine mH Tryz.func139 au rfl #[.string (t150.extract (iK:Int).toNat (t151:Int).toNat)] (by rfl) rfl rfl dM ?_
 with_reducible refine (fM.calls (t150.extract (iK:Int).toNat (t151:Int).toNat) t152 _ A6.out).mono ?_
 rintro e qw ⟨rfl,hb⟩
 have aCP:=(hb.cell (World.block_lt_of_cell? _ _ (hHeld.1))).trans (hHeld.1)
 have aCQ:=(hb.cell (World.block_lt_of_cell? _ _ (hHeld.2))).trans (hHeld.2)
 refine ⟨_,rfl,?_⟩
 have jJ:=ah.mk (eW.below tU hb)
 have jK:=ah.mk (dW.trans kU (dW.of_below hb g none) (.inl rfl))
 have lV:=ah.mk (av aI hb)
 clear sU
 clear HK
 clear HB
 have sU:=jJ
 have HK:=jK
 have HB:=lV
 clear jJ jK lV
 refine hK.out _ _ ⟨aCP,aCQ⟩ (fun hHeld=>?_)
 clear hK K
 refine kX (a':=?_) ?_ ?_
 rotate_left
 ·show Act.put _ (some 24) _=_
  simp only [Act.put,List.setIfInBounds_toArray,List.set_cons_zero,List.set_cons_succ,aY,aZ]
  rfl
 refine aQ (i:=12) (N:=some 2) #[true,true,true,true,true,true,true,true,true,true,true,true,true,false] rfl rfl (br dL.out au) (fun _ _ _ h=>h) (Or.inl ⟨by rfl,cJ⟩) cX ?_
 refine aQ (i:=13) (N:=some 3) #[true,true,true,true,true,true,true,true,true,true,true,true,true,true] rfl rfl (br dL.out au) (fun _ _ _ h=>h) (Or.inl ⟨by rfl,cJ⟩) cX ?_
 refine oU (o7 dL.out au) ?_
 try go_wp2
 go_ret2
 exact ⟨by rfl,tU,aI,kU⟩
def nj.f (a0:ByteArray):Option (Bool):=some (decide ((a0.size:Int) > 63))
theorem nj.calls (a0:ByteArray) (r:Bool) (w:World) (h:nj.f a0=some r):
 Calls Tryz.prog 142 #[.string a0] w fun e w'=>e= .returned (.bool r)∧ia w w':=by
 have H:(some (decide ((a0.size:Int) > 63)))=some r:=h
 clear h
 obtain rfl:=Option.some.inj H
 go_enter Tryz.func142,Tryz.ntmps142
 go_wp2
 go_ret
 exact ⟨by rfl,mj⟩
def aM.l0:Nat→List ByteArray→Int→Int→Option (Int)
 | 0,_,_,_ =>none
 |k + 1,x0,x7,x8=>if x8 < x7 then (if 0≤x8 then (if x8 < (x0.length:Int) then ((nj.f (oQ ByteArray.empty x0 x8)).bind fun t154=>(if t154=true then (some x8) else (aM.l0 k x0 x7 (wrap64 (x8 + 1))))) else (none)) else (none)) else (some (-1))
def aM.f (k:Nat) (l0:List ByteArray):Option (Int):=aM.l0 k l0 (l0.length:Int) 0
theorem aM.eY:∀ k,(∀ y0 y1 y2,fP (aM.l0 k y0 y1 y2) (aM.l0 (k + 1) y0 y1 y2))
 | 0=>fun _ _ _ r h=>by simp [aM.l0] at h
 |k + 1=>by
  have nY:=aM.eY k
  ·intro y0 y1 y2
   unfold aM.l0
   repeat' (with_reducible first|exact nY _ _ _|exact fP.refl _|refine fP.ite ?_ ?_|refine fP.bind ?_ (fun _ =>?_))
theorem aM.mono:∀ a0 k,fP (aM.f k a0) (aM.f (k + 1) a0):=by
 intro a0 k
 have nY:=aM.eY k
 unfold aM.f
 repeat' (with_reducible exact nY _ _ _)
theorem aM.calls (k:Nat) (A0:Option Addr) (c0:Nat) (l0:List ByteArray) (r:Int) (w:World) (nZ:Kd.C Kd.string w A0 l0.length l0) (hc0:l0.length≤c0) (h:aM.f k l0=some r):
 Calls Tryz.prog 184 #[.slice A0 l0.length c0,.func (.func 142) #[] #[]] w fun e w'=>e= .returned (.int .i64 r)∧ia w w':=by
 have qN:=ah.mk nZ
 have Eg:=ah.mk hc0
 clear nZ hc0
 have H:(aM.l0 k l0 (l0.length:Int) 0)=some r:=h
 clear h
 have H':=ah.mk H
 clear H
 go_enter Tryz.func184,Tryz.ntmps184
 go_wp2
 go_loopg [8] k (fun kq v8 w'=>∃ (gJ:Int),v8= .int .i64 gJ∧ah (aM.l0 kq l0 (l0.length:Int) gJ=some r)∧ah (kq≤k)∧ia w w')
 case atStart=>exact ⟨(0),(by rfl),H',⟨Nat.le_refl _⟩,mj⟩
 case round=>
  clear H'
  obtain ⟨gJ,rfl,HA,oI,⟨m1,rfl⟩⟩:=hrel
  cases gk with
  |zero=>exact absurd HA.out (by simp [aM.l0])
  |succ k1=>
   have H:=HA.out
   clear HA
   simp only [aM.l0] at H
   by_cases c3:gJ < (l0.length:Int)
   ·rw [if_pos c3] at H
    have nT:=decide_eq_true c3
    clear c3
    obtain ⟨c4,H⟩:=lg H
    have ng:=decide_eq_true c4
    clear c4
    obtain ⟨c5,H⟩:=lg H
    have qu:=decide_eq_true c5
    clear c5
    obtain ⟨t154,A6,H⟩:=bd_ H
    by_cases c7:t154=true
    ·subst c7
     rw [if_pos rfl] at H
     obtain rfl:=Option.some.inj H
     have N7: 0≤(gJ:Int):=of_decide_eq_true cL
     have N8:gJ < (l0.length:Int):=of_decide_eq_true cL
     obtain ⟨ajr,agj,aad⟩:=Kd.kN qN.out gJ N7 N8
     cases agj
     replace N7:=eq_true N7
     replace N8:=eq_true N8
     go_wp2_with ((go_at_call 142;(with_reducible refine (nj.calls (oQ ByteArray.empty l0 gJ) true _ A6.out).mono ?_);rintro e w' ⟨rfl,⟨nd,rfl⟩⟩))
     go_ret
     exact ⟨by rfl,jl⟩
    ·replace c7:=Bool.eq_false_iff.mpr c7
     subst c7
     rw [if_neg (show ¬ (false=true) by decide)] at H
     have H':=ah.mk H
     clear H
     have N7: 0≤(gJ:Int):=of_decide_eq_true cL
     have N8:gJ < (l0.length:Int):=of_decide_eq_true cL
     obtain ⟨ajr,agj,aad⟩:=Kd.kN qN.out gJ N7 N8
     cases agj
     replace N7:=eq_true N7
     replace N8:=eq_true N8
     go_wp2_with ((go_at_call 142;(with_reducible refine (nj.calls (oQ ByteArray.empty l0 gJ) false _ A6.out).mono ?_);rintro e w' ⟨rfl,⟨nd,rfl⟩⟩))
     go_roundg k1
     case measure=>have:=oI.out;omega
     case rel=>exact ⟨(wrap64 (gJ + 1)),(by rfl),H',⟨lS⟩,jl⟩
   ·rw [if_neg c3] at H
    have nT:=decide_eq_false c3
    clear c3
    obtain rfl:=Option.some.inj H
    go_wp2
    go_ret
    exact ⟨by rfl,jl⟩
def bZ.f (k:Nat) (l0:List ByteArray):Option (Bool):=(aM.f k l0).bind fun t155=>(some (decide (t155≥0)))
theorem bZ.mono:∀ a0 k,fP (bZ.f k a0) (bZ.f (k + 1) a0):=by
 intro a0 k
 unfold bZ.f
 repeat' (with_reducible first|exact aM.mono _ _|exact fP.refl _|refine fP.bind ?_ (fun _ =>?_))
theorem bZ.calls (k:Nat) (A0:Option Addr) (c0:Nat) (l0:List ByteArray) (r:Bool) (w:World) (nZ:Kd.C Kd.string w A0 l0.length l0) (hc0:l0.length≤c0) (h:bZ.f k l0=some r):
 Calls Tryz.prog 140 #[.slice A0 l0.length c0,.func (.func 142) #[] #[]] w fun e w'=>e= .returned (.bool r)∧ia w w':=by
 have qN:=ah.mk nZ
 have Eg:=ah.mk hc0
 clear nZ hc0
 have H:((aM.f k l0).bind fun t155=>(some (decide (t155≥0))))=some r:=h
 clear h
 obtain ⟨t155,A3,H⟩:=bd_ H
 obtain rfl:=Option.some.inj H
 go_enter Tryz.func140,Tryz.ntmps140
 go_wp2_with (((with_reducible refine bE (f:=184) rfl ?_);refine dg (some 7) rfl rfl Tryz.func184 au rfl #[.slice A0 l0.length c0,.func (.func 142) #[] #[]] rfl dM ?_;(with_reducible refine (aM.calls k _ _ l0 t155 _ ?bk ?bI A3.out).mono ?_);(case bk=>repeat (exact qN.out));(case bI=>exact Eg.out);rintro e w' ⟨rfl,⟨nd,rfl⟩⟩;refine ⟨_,rfl,?_⟩))
 go_ret
 exact ⟨by rfl,jl⟩
def gK.f (k:Nat) (a0:ByteArray):Option (Bool):=if (a0.size:Int)≤255 then ((strings_Split.f a0 (⟨#[46]⟩:ByteArray)).bind fun t156=>((bZ.f k t156).bind fun t159=>(some (!t159)))) else (some false)
theorem gK.mono:∀ a0 k,fP (gK.f k a0) (gK.f (k + 1) a0):=by
 intro a0 k
 unfold gK.f
 repeat' (with_reducible first|exact bZ.mono _ _|exact fP.refl _|refine fP.ite ?_ ?_|refine fP.bind ?_ (fun _ =>?_))
theorem gK.calls (k:Nat) (a0:ByteArray) (r:Bool) (w:World) (hG:bB w) (h:gK.f k a0=some r):
 Calls Tryz.prog 94 #[.string a0] w fun e w'=>e= .returned (.bool r)∧Below w.heap.size w w':=by
 have HB:=ah.mk (Below.refl w.heap.size w)
 have HG:=ah.mk hG
 clear hG
 have H:(if (a0.size:Int)≤255 then ((strings_Split.f a0 (⟨#[46]⟩:ByteArray)).bind fun t156=>((bZ.f k t156).bind fun t159=>(some (!t159)))) else (some false))=some r:=h
 clear h
 by_cases c2:(a0.size:Int)≤255
 ·rw [if_pos c2] at H
  have BD:=decide_eq_true c2
  have Xc:decide (a0.size≤255)=true:=decide_eq_true aA
  clear c2
  obtain ⟨t156,A3,H⟩:=bd_ H
  obtain ⟨t159,A4,H⟩:=bd_ H
  obtain rfl:=Option.some.inj H
  go_enter Tryz.func94,Tryz.ntmps94
  go_wp2_with (first|(go_at_call 141;(with_reducible refine (strings_Split.calls a0 (⟨#[46]⟩:ByteArray) t156 _ ?bk A3.out).mono ?_);(case bk=>exact bB.below HG.out aI);rintro e w5 ⟨v157,rfl,ho0,hb⟩;have Xi:=ah.mk (Kd.dY ho0 (bV aI));replace HB:=ah.mk (av aI hb);(try clear hb);(try clear ho0);obtain ⟨Ao6,co6,eo6⟩:=Kd.dF Xi.out;subst eo6)|(go_at_call 140;(with_reducible refine (bZ.calls k _ _ t156 t159 _ ?bk ?bI A4.out).mono ?_);(case bk=>repeat (exact (Kd.bW Xi.out).2.2));(case bI=>exact (Kd.bW Xi.out).2.1);rintro e w' ⟨rfl,⟨nd,rfl⟩⟩))
  go_ret
  exact ⟨by rfl,eB⟩
 ·rw [if_neg c2] at H
  have BD:=decide_eq_false c2
  have Xc:decide (a0.size≤255)=false:=decide_eq_false aA
  clear c2
  obtain rfl:=Option.some.inj H
  go_enter Tryz.func94,Tryz.ntmps94
  go_wp2
  go_ret
  exact ⟨by rfl,aI⟩
def iU.f (k:Nat) (a0:ByteArray):Option (Bool):=(cP.f k a0 0).bind fun Mj=>(if Mj.2.1=true then (if Mj.2.2.2=(a0.size:Int) then ((gK.f k a0).bind fun t165=>(some t165)) else (some false)) else (some false))
theorem iU.mono:∀ a0 k,fP (iU.f k a0) (iU.f (k + 1) a0):=by
 intro a0 k
 unfold iU.f
 repeat' (with_reducible first|exact cP.mono _ _ _|exact gK.mono _ _|exact fP.refl _|refine fP.ite ?_ ?_|refine fP.bind ?_ (fun _ =>?_))
theorem iU.calls (k:Nat) (a0:ByteArray) (r:Bool) (w:World) (hG:bB w) (h:iU.f k a0=some r):
 Calls Tryz.prog 52 #[.string a0] w fun e w'=>e= .returned (.bool r)∧Below w.heap.size w w':=by
 have aFR:=Tryz.underlying132
 have HB:=ah.mk (Below.refl w.heap.size w)
 have HG:=ah.mk hG
 clear hG
 have H:((cP.f k a0 0).bind fun Mj=>(if Mj.2.1=true then (if Mj.2.2.2=(a0.size:Int) then ((gK.f k a0).bind fun t165=>(some t165)) else (some false)) else (some false)))=some r:=h
 clear h
 obtain ⟨⟨t161,t162,t163,t164⟩,A2,H⟩:=bd_ H
 (try dsimp only at H)
 by_cases c3:t162=true
 ·subst c3
  rw [if_pos rfl] at H
  by_cases c4:t164=(a0.size:Int)
  ·rw [if_pos c4] at H
   have ng:=beq_iff_eq.mpr c4
   have BC:=bne_eq_false_iff_eq.mpr c4
   clear c4
   obtain ⟨t165,A5,H⟩:=bd_ H
   obtain rfl:=Option.some.inj H
   go_enter Tryz.func52,Tryz.ntmps52
   go_wp2_with (first|((with_reducible refine bw (N:=8) rfl ?_);(try (refine bO (by rfl) ?_;dsimp only));refine bA ?hg (N:=8) ?hd (cs:=#[.string a0,.int .i64 0]) (t:=132) ?hr ?_;(case hd=>rfl);(case hg=>rfl);(case hr=>(go_simp;done));intro qX hg w6 bH hb;have wP:=ah.mk ((⟨bH,bG⟩:eW w w6 qX a0 0));have aeU:=ah.mk ((bG:w.heap.size≤qX));have aeV:=ah.mk ((bG:w.heap.size≤qX));replace HB:=ah.mk (av aI hb);clear hb bH hg)|((with_reducible refine bE (f:=93) rfl ?_);refine dg (some 11) rfl rfl Tryz.func93 au rfl #[.pointer (some ⟨qX,0,none⟩)] rfl dM ?_;(with_reducible refine (cP.calls k qX a0 0 t161 true t163 t164 w _ ?bk ?bI A2.out).mono ?_);(case bk=>repeat (exact wP.out));(case bI=>repeat ((with_reducible exact HB.out)));rintro e w7 ⟨rfl,hi,hb,hk⟩;refine ⟨_,rfl,?_⟩;replace HB:=ah.mk (hb);replace wP:=ah.mk (hi);(try clear hb);(try clear hk);(try clear hi);obtain ⟨E3,agf⟩:=wP.out;have ES:=kY E3;have ET:=kZ E3;have EU:=aa E3 0;have EW:=aa E3 1;clear E3 agf)|(go_at_call 94;(with_reducible refine (gK.calls k a0 t165 _ ?bk A5.out).mono ?_);(case bk=>exact bB.below HG.out aI);rintro e w9 ⟨rfl,hb⟩;replace HB:=ah.mk (av aI hb);replace wP:=ah.mk (eW.below (by repeat ((with_reducible exact wP.out))) hb);(try clear hb)))
   go_ret
   exact ⟨by rfl,aI⟩
  ·rw [if_neg c4] at H
   have ng:=beq_eq_false_iff_ne.mpr c4
   have BC:=bne_iff_ne.mpr c4
   obtain rfl:=Option.some.inj H
   go_enter Tryz.func52,Tryz.ntmps52
   go_wp2_with (first|((with_reducible refine bw (N:=8) rfl ?_);(try (refine bO (by rfl) ?_;dsimp only));refine bA ?hg (N:=8) ?hd (cs:=#[.string a0,.int .i64 0]) (t:=132) ?hr ?_;(case hd=>rfl);(case hg=>rfl);(case hr=>(go_simp;done));intro qX hg qw bH hb;have wP:=ah.mk ((⟨bH,bG⟩:eW w qw qX a0 0));have aeU:=ah.mk ((bG:w.heap.size≤qX));have aeV:=ah.mk ((bG:w.heap.size≤qX));replace HB:=ah.mk (av aI hb);clear hb bH hg)|((with_reducible refine bE (f:=93) rfl ?_);refine dg (some 11) rfl rfl Tryz.func93 au rfl #[.pointer (some ⟨qX,0,none⟩)] rfl dM ?_;(with_reducible refine (cP.calls k qX a0 0 t161 true t163 t164 w _ ?bk ?bI A2.out).mono ?_);(case bk=>repeat (exact wP.out));(case bI=>repeat ((with_reducible exact HB.out)));rintro e yj ⟨rfl,hi,hb,hk⟩;refine ⟨_,rfl,?_⟩;replace HB:=ah.mk (hb);replace wP:=ah.mk (hi);(try clear hb);(try clear hk);(try clear hi);obtain ⟨Mk,ajs⟩:=wP.out;have ya:=kY Mk;have yc:=kZ Mk;have yf:=aa Mk 0;have yg:=aa Mk 1;clear Mk ajs))
   go_ret
   exact ⟨by rfl,aI⟩
 ·replace c3:=Bool.eq_false_iff.mpr c3
  subst c3
  rw [if_neg (show ¬ (false=true) by decide)] at H
  obtain rfl:=Option.some.inj H
  go_enter Tryz.func52,Tryz.ntmps52
  go_wp2_with (first|((with_reducible refine bw (N:=8) rfl ?_);(try (refine bO (by rfl) ?_;dsimp only));refine bA ?hg (N:=8) ?hd (cs:=#[.string a0,.int .i64 0]) (t:=132) ?hr ?_;(case hd=>rfl);(case hg=>rfl);(case hr=>(go_simp;done));intro qX hg ni bH hb;have wP:=ah.mk ((⟨bH,bG⟩:eW w ni qX a0 0));have aeU:=ah.mk ((bG:w.heap.size≤qX));have aeV:=ah.mk ((bG:w.heap.size≤qX));replace HB:=ah.mk (av aI hb);clear hb bH hg)|((with_reducible refine bE (f:=93) rfl ?_);refine dg (some 11) rfl rfl Tryz.func93 au rfl #[.pointer (some ⟨qX,0,none⟩)] rfl dM ?_;(with_reducible refine (cP.calls k qX a0 0 t161 false t163 t164 w _ ?bk ?bI A2.out).mono ?_);(case bk=>repeat (exact wP.out));(case bI=>repeat ((with_reducible exact HB.out)));rintro e Np ⟨rfl,hi,hb,hk⟩;refine ⟨_,rfl,?_⟩;replace HB:=ah.mk (hb);replace wP:=ah.mk (hi);(try clear hb);(try clear hk);(try clear hi)))
  go_ret
  exact ⟨by rfl,aI⟩
def jP.f (k:Nat) (a0:ByteArray):Option (Bool):=(iU.f k a0).bind fun t166=>(if t166=true then ((fM.f a0).bind fun t167=>(some (t167.toList == a0.toList))) else (some false))
theorem jP.mono:∀ a0 k,fP (jP.f k a0) (jP.f (k + 1) a0):=by
 intro a0 k
 unfold jP.f
 repeat' (with_reducible first|exact iU.mono _ _|exact fP.refl _|refine fP.bind ?_ (fun _ =>?_))
theorem jP.calls (k:Nat) (a0:ByteArray) (r:Bool) (w:World) (hG:bB w) (h:jP.f k a0=some r):
 Calls Tryz.prog 145 #[.string a0] w fun e w'=>e= .returned (.bool r)∧Below w.heap.size w w':=by
 have HB:=ah.mk (Below.refl w.heap.size w)
 have HG:=ah.mk hG
 clear hG
 have H:((iU.f k a0).bind fun t166=>(if t166=true then ((fM.f a0).bind fun t167=>(some (t167.toList == a0.toList))) else (some false)))=some r:=h
 clear h
 obtain ⟨t166,A2,H⟩:=bd_ H
 by_cases c3:t166=true
 ·subst c3
  rw [if_pos rfl] at H
  obtain ⟨t167,A4,H⟩:=bd_ H
  obtain rfl:=Option.some.inj H
  go_enter Tryz.func145,Tryz.ntmps145
  go_wp2_with (first|((with_reducible refine bE (f:=52) rfl ?_);refine dg (some 4) rfl rfl Tryz.func52 au rfl #[.string a0] rfl dM ?_;(with_reducible refine (iU.calls k a0 true _ ?bk A2.out).mono ?_);(case bk=>exact bB.below HG.out aI);rintro e w5 ⟨rfl,hb⟩;refine ⟨_,rfl,?_⟩;replace HB:=ah.mk (av aI hb);(try clear hb))|(go_at_call 139;(with_reducible refine (fM.calls a0 t167 _ A4.out).mono ?_);rintro e w6 ⟨rfl,hb⟩;replace HB:=ah.mk (av aI hb);(try clear hb)))
  go_ret
  exact ⟨by rfl,aI⟩
 ·replace c3:=Bool.eq_false_iff.mpr c3
  subst c3
  rw [if_neg (show ¬ (false=true) by decide)] at H
  obtain rfl:=Option.some.inj H
  go_enter Tryz.func145,Tryz.ntmps145
  go_wp2_with (((with_reducible refine bE (f:=52) rfl ?_);refine dg (some 4) rfl rfl Tryz.func52 au rfl #[.string a0] rfl dM ?_;(with_reducible refine (iU.calls k a0 false _ ?bk A2.out).mono ?_);(case bk=>exact bB.below HG.out aI);rintro e w7 ⟨rfl,hb⟩;refine ⟨_,rfl,?_⟩;replace HB:=ah.mk (av aI hb);(try clear hb)))
  go_ret
  exact ⟨by rfl,aI⟩
end Go.Proofs.YtbjjaaodfbjkfaaGreatDoor.ow
