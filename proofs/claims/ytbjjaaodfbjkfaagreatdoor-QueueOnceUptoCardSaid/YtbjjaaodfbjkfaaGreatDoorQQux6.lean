import Derived.Test.YtbjjaaodfbjkfaaGreatDoorQQux5
import Derived.Test.YtbjjaaodfbjkfaaGreatDoorESmall
import Derived.Test.YtbjjaaodfbjkfaaGreatDoorEStr
set_option maxHeartbeats 8000000
set_option maxRecDepth 100000
namespace Go.Proofs.YtbjjaaodfbjkfaaGreatDoor.mU
open Go.RowKit Go.Proofs.YtbjjaaodfbjkfaaGreatDoor.yN Go.Proofs.ak.bR Go.Proofs.ak.dz Go.Proofs.ak.cZ
attribute [local go_sem] iR iT jW jX gW gX jh ji
set_option linter.unusedVariables false
set_option linter.unusedSimpArgs false
def aX.l0:Nat→Int→ByteArray→Int→Option (Bool×ByteArray×Int)
 | 0,_,_,_ =>none
 |k + 1,x1,wh,qC=>(fk.f k wh qC).bind fun KN=>(if KN.1=true then ((jq.f KN.2.1 KN.2.2 x1).bind fun KO=>(if KO.1=true then (aX.l0 k x1 KO.2.1 KO.2.2) else (some (true,KO.2.1,KO.2.2)))) else (some (false,KN.2.1,KN.2.2)))
def aX.f (k:Nat) (jY:ByteArray) (gZ:Int) (a1:Int):Option (Bool×ByteArray×Int):=aX.l0 k a1 jY gZ
theorem aX.ey:∀ k,(∀ y0 y1 y2,eZ (aX.l0 k y0 y1 y2) (aX.l0 (k + 1) y0 y1 y2))
 | 0=>fun _ _ _ r h=>by simp [aX.l0] at h
 |k + 1=>by
  have mH:=aX.ey k
  ·intro y0 y1 y2
   unfold aX.l0
   repeat' (with_reducible first|exact mH _ _ _|exact fk.mono _ _ _|exact eZ.refl _|refine eZ.ite ?_ ?_|refine eZ.bind ?_ (fun _ =>?_))
theorem aX.mono:∀ a0 a1 a2 k,eZ (aX.f k a0 a1 a2) (aX.f (k + 1) a0 a1 a2):=by
 intro a0 a1 a2 k
 have mH:=aX.ey k
 unfold aX.f
 repeat' (with_reducible exact mH _ _ _)
theorem aX.calls (k:Nat) (g:Nat) (jY:ByteArray) (gZ:Int) (a1:Int) (r1:Bool) (r2:ByteArray) (r3:Int) (w0 w:World) (hI:dR w0 w g jY gZ) (hB:Below w0.heap.size w0 w) (h:aX.f k jY gZ a1=some (r1,r2,r3)):
 Calls Tryz.prog 137 #[.pointer (some ⟨g,0,none⟩),.int .u8 a1,.func (.func 138) #[.pointer (some ⟨g,0,none⟩)] #[]] w fun e w'=>e= .returned (.bool r1)∧dR w0 w' g r2 r3∧Below w0.heap.size w0 w'∧dF w w' g none:=by
 have rB:=ah.mk hI
 have HK:=ah.mk (dF.refl w g none)
 have HL:=ah.mk hB.size
 clear hI
 have HW0:=ah.mk hB.size
 have HB:=ah.mk hB
 clear hB
 have H:(aX.l0 k a1 jY gZ)=some (r1,r2,r3):=h
 clear h
 have H':=ah.mk H
 clear H
 go_enter Tryz.func137,Tryz.ntmps137
 go_wp2
 go_loopg [] k (fun kq w'=>∃ (kD:ByteArray) (jF:Int),ah (aX.l0 kq a1 kD jF=some (r1,r2,r3))∧ah (kq≤k)∧ah (dR w0 w' g kD jF)∧ah (dF w w' g none)∧ah (Below w0.heap.size w0 w'))
 case atStart=>exact ⟨(jY),(gZ),H',⟨Nat.le_refl _⟩,⟨sJ⟩,⟨kr⟩,⟨aJ⟩⟩
 case round=>
  clear H'
  obtain ⟨kD,jF,HA,qi,rB,HK,HB⟩:=hrel
  cases gk with
  |zero=>exact absurd HA.out (by simp [aX.l0])
  |succ k1=>
   have H:=HA.out
   clear HA
   simp only [aX.l0] at H
   obtain ⟨⟨t143,t144,t145⟩,A4,H⟩:=bd_ H
   (try dsimp only at H)
   by_cases c5:t143=true
   ·subst c5
    rw [if_pos rfl] at H
    obtain ⟨⟨t146,t147,t148⟩,A6,H⟩:=bd_ H
    (try dsimp only at H)
    by_cases c7:t146=true
    ·subst c7
     rw [if_pos rfl] at H
     have H':=ah.mk H
     clear H
     go_wp2_with (first|(go_at_call 138;(with_reducible refine (fk.calls k1 g kD jF true t144 t145 w0 _ ?bn ?bN A4.out).mono ?_);(case bn=>repeat ((with_reducible exact rB.out)));(case bN=>repeat ((with_reducible exact HB.out)));rintro e w8 ⟨rfl,hi,hb,hk⟩;replace HK:=ah.mk (dF.trans kr hk (.inl rfl));replace HB:=ah.mk (hb);replace rB:=ah.mk (hi);(try clear hb);(try clear hk);(try clear hi))|((with_reducible refine bK (f:=179) rfl ?_);refine dB (some 11) rfl rfl Tryz.func179 aq rfl #[.pointer (some ⟨g,0,none⟩),.int .u8 a1] rfl dK ?_;(with_reducible refine (jq.calls g t144 t145 a1 true t147 t148 w0 _ ?bn ?bN A6.out).mono ?_);(case bn=>repeat ((with_reducible exact rB.out)));(case bN=>repeat ((with_reducible exact HB.out)));rintro e w9 ⟨rfl,hi,hb,hk⟩;refine ⟨_,rfl,?_⟩;replace HK:=ah.mk (dF.trans kr hk (.inl rfl));replace HB:=ah.mk (hb);replace rB:=ah.mk (hi);(try clear hb);(try clear hk);(try clear hi)))
     go_roundg k1
     case measure=>have:=qi.out;omega
     case rel=>exact ⟨(t147),(t148),H',⟨lu⟩,⟨sJ⟩,⟨kr⟩,⟨aJ⟩⟩
    ·replace c7:=Bool.eq_false_iff.mpr c7
     subst c7
     rw [if_neg (show ¬ (false=true) by decide)] at H
     simp only [Option.some.injEq,Prod.mk.injEq] at H
     obtain ⟨rfl,rfl,rfl⟩:=H
     go_wp2_with (first|(go_at_call 138;(with_reducible refine (fk.calls k1 g kD jF true t144 t145 w0 _ ?bn ?bN A4.out).mono ?_);(case bn=>repeat ((with_reducible exact rB.out)));(case bN=>repeat ((with_reducible exact HB.out)));rintro e pF ⟨rfl,hi,hb,hk⟩;replace HK:=ah.mk (dF.trans kr hk (.inl rfl));replace HB:=ah.mk (hb);replace rB:=ah.mk (hi);(try clear hb);(try clear hk);(try clear hi))|((with_reducible refine bK (f:=179) rfl ?_);refine dB (some 11) rfl rfl Tryz.func179 aq rfl #[.pointer (some ⟨g,0,none⟩),.int .u8 a1] rfl dK ?_;(with_reducible refine (jq.calls g t144 t145 a1 false t147 t148 w0 _ ?bn ?bN A6.out).mono ?_);(case bn=>repeat ((with_reducible exact rB.out)));(case bN=>repeat ((with_reducible exact HB.out)));rintro e xq ⟨rfl,hi,hb,hk⟩;refine ⟨_,rfl,?_⟩;replace HK:=ah.mk (dF.trans kr hk (.inl rfl));replace HB:=ah.mk (hb);replace rB:=ah.mk (hi);(try clear hb);(try clear hk);(try clear hi)))
     go_ret
     exact ⟨by rfl,sJ,aJ,kr⟩
   ·replace c5:=Bool.eq_false_iff.mpr c5
    subst c5
    rw [if_neg (show ¬ (false=true) by decide)] at H
    simp only [Option.some.injEq,Prod.mk.injEq] at H
    obtain ⟨rfl,rfl,rfl⟩:=H
    go_wp2_with ((go_at_call 138;(with_reducible refine (fk.calls k1 g kD jF false t144 t145 w0 _ ?bn ?bN A4.out).mono ?_);(case bn=>repeat ((with_reducible exact rB.out)));(case bN=>repeat ((with_reducible exact HB.out)));rintro e D3 ⟨rfl,hi,hb,hk⟩;replace HK:=ah.mk (dF.trans kr hk (.inl rfl));replace HB:=ah.mk (hb);replace rB:=ah.mk (hi);(try clear hb);(try clear hk);(try clear hi)))
    go_ret
    exact ⟨by rfl,sJ,aJ,kr⟩
def cG.f (k:Nat) (jY:ByteArray) (gZ:Int):Option (ByteArray×Bool×ByteArray×Int):=(aX.f k jY gZ 46).bind fun p9=>(if 0≤gZ then (if gZ≤p9.2.2 then (if p9.2.2≤(p9.2.1.size:Int) then ((eX.f (p9.2.1.extract (gZ:Int).toNat (p9.2.2:Int).toNat)).bind fun t152=>(some (t152,p9.1,p9.2.1,p9.2.2))) else (none)) else (none)) else (none))
theorem cG.mono:∀ a0 a1 k,eZ (cG.f k a0 a1) (cG.f (k + 1) a0 a1):=by
 intro a0 a1 k
 unfold cG.f
 repeat' (with_reducible first|exact aX.mono _ _ _ _|exact eZ.refl _|refine eZ.bind ?_ (fun _ =>?_))
def cG.T3:Bool×List (List Nat×List Nat):=(true,[([],[]),([0],[0]),([1],[1]),([2],[2]),([],[]),([],[]),([5],[5]),([6],[6]),([7],[7]),([3,4,8],[3,4,8]),([9],[9]),([],[]),([10,10,0,1,2,3,4,5,6,7,8,9,10],[10]),([11,12,0,1,2,3,4,5,6,7,8,9,10,11,12],[11])])
def cG.B3:List Nat:=[0,1,3,7,0,0,32,96,224,511,1023,0,2047,8191]
theorem cG.axM:pZ .any (opsOf Tryz.f93 3)=cG.T3:=by kernel_rfl
theorem cG.afy:pT cG.T3.2 cG.B3=true:=by kernel_rfl
theorem cG.calls (k:Nat) (g:Nat) (jY:ByteArray) (gZ:Int) (r1:ByteArray) (r2:Bool) (r3:ByteArray) (r4:Int) (w0 w:World) (hI:dR w0 w g jY gZ) (hB:Below w0.heap.size w0 w) (h:cG.f k jY gZ=some (r1,r2,r3,r4)):
 Calls Tryz.prog 93 #[.pointer (some ⟨g,0,none⟩)] w fun e w'=>e= .returned (.tuple #[.string r1,.bool r2])∧dR w0 w' g r3 r4∧Below w0.heap.size w0 w'∧dF w w' g none:=by
 have rB:=ah.mk hI
 have HK:=ah.mk (dF.refl w g none)
 have HL:=ah.mk hB.size
 clear hI
 have HW0:=ah.mk hB.size
 have HB:=ah.mk hB
 clear hB
 have H:((aX.f k jY gZ 46).bind fun p9=>(if 0≤gZ then (if gZ≤p9.2.2 then (if p9.2.2≤(p9.2.1.size:Int) then ((eX.f (p9.2.1.extract (gZ:Int).toNat (p9.2.2:Int).toNat)).bind fun t152=>(some (t152,p9.1,p9.2.1,p9.2.2))) else (none)) else (none)) else (none)))=some (r1,r2,r3,r4):=h
 clear h
 obtain ⟨⟨t149,t150,t151⟩,A2,H⟩:=bd_ H
 (try dsimp only at H)
 obtain ⟨c3,H⟩:=lO H
 have ny:=eq_true c3
 have xX:=decide_eq_true c3
 clear c3
 obtain ⟨c4,H⟩:=lO H
 have mQ:=eq_true c4
 have AE:=decide_eq_true c4
 clear c4
 obtain ⟨c5,H⟩:=lO H
 have p8:=eq_true c5
 have Mr:=decide_eq_true c5
 clear c5
 obtain ⟨t152,A6,H⟩:=bd_ H
 simp only [Option.some.injEq,Prod.mk.injEq] at H
 obtain ⟨rfl,rfl,rfl,rfl⟩:=H
 obtain ⟨DT,acI⟩:=rB.out
 have G7:=kA DT
 have G8:=kB DT
 have G9:=aa DT 0
 have He:=aa DT 1
 clear DT acI
 go_enter Tryz.func93,Tryz.ntmps93
 try go_wp2_with (((with_reducible refine bK (f:=137) rfl ?_);refine dB (some 13) rfl rfl Tryz.func137 aq rfl #[.pointer (some ⟨g,0,none⟩),.int .u8 46,.func (.func 138) #[.pointer (some ⟨g,0,none⟩)] #[]] rfl dK ?_;(with_reducible refine (aX.calls k g jY gZ 46 t149 t150 t151 w0 _ ?bn ?bN A2.out).mono ?_);(case bn=>repeat ((with_reducible exact rB.out)));(case bN=>repeat ((with_reducible exact HB.out)));rintro e w8 ⟨rfl,hi,hb,hk⟩;refine ⟨_,rfl,?_⟩;replace HK:=ah.mk (dF.trans kr hk (.inl rfl));replace HB:=ah.mk (hb);replace rB:=ah.mk (hi);(try clear hb);(try clear hk);(try clear hi)))
 have kj:=ah.mk (dR.drew rB.out)
 have ko:=ah.mk (Ri HK.out)
 have mV:=ah.mk (fS HB.out)
 clear rB
 clear HK
 clear HB
 have rB:=kj
 have HK:=ko
 have HB:=mV
 clear kj ko mV
 refine kS (n:=14) (S:=fun w'=>w'.cell? ⟨g,0,none⟩=some (.string t150)∧w'.cell? ⟨g,1,none⟩=some (.int .i64 t151)) (ds:=[]) #[false,false,false,false,false,false,false,false,false,false,false,false,false,false] aq (by rfl) (by rfl) ⟨kA rB.out.1,kB rB.out.1⟩ (fun hHeld=>?_);refine kL cG.axM cG.afy (fun dh rq=>?_)
 generalize w8.drew=w9 at rB HK HB hHeld ⊢
 refine aN (i:=0) (N:=some 14) #[true,false,false,false,false,false,false,false,false,false,false,false,false,false] rfl rfl (bf dh.out aq) (fun _ _ _ h=>h) (Or.inl ⟨by rfl,cD⟩) cM ?_
 refine aN (i:=1) (N:=some 15) #[true,true,false,false,false,false,false,false,false,false,false,false,false,false] rfl rfl (bf dh.out aq) (fun _ _ _ h=>h) (Or.inl ⟨by rfl,cD⟩) cM ?_
 refine aN (i:=2) (N:=some 16) #[true,true,true,false,false,false,false,false,false,false,false,false,false,false] rfl rfl (bf dh.out aq) (fun _ _ _ h=>h) (Or.inl ⟨by rfl,cD⟩) cM ?_
 refine aN (i:=4) (N:=some 18) #[true,true,true,false,true,false,false,false,false,false,false,false,false,false] rfl rfl (bf dh.out aq) (fun _ _ _ h=>h) (Or.inl ⟨by rfl,cD⟩) cM ?_
 refine aN (i:=5) (N:=some 19) #[true,true,true,false,true,true,false,false,false,false,false,false,false,false] rfl rfl (bf dh.out aq) (fun _ _ _ h=>h) (Or.inl ⟨by rfl,cD⟩) cM ?_
 refine aN (i:=6) (N:=some 20) #[true,true,true,false,true,true,true,false,false,false,false,false,false,false] rfl rfl (bf dh.out aq) (fun _ _ _ h=>h) (Or.inl ⟨by rfl,cD⟩) cM ?_
 refine aN (i:=7) (N:=some 21) #[true,true,true,false,true,true,true,true,false,false,false,false,false,false] rfl rfl (bf dh.out aq) (fun _ _ _ h=>h) (Or.inl ⟨by rfl,cD⟩) cM ?_
 refine aN (i:=11) (N:=some 25) #[true,true,true,false,true,true,true,true,false,false,false,true,false,false] rfl rfl (bf dh.out aq) (fun _ _ _ h=>h) (Or.inl ⟨by rfl,cD⟩) cM ?_
 refine fL (i:=3) (N:=some 17) #[true,true,true,true,true,true,true,true,false,false,false,true,false,false] rfl rfl (eV dh.out rq.out aq) (fun _ _ _ h=>h) (Or.inl ⟨by rfl,(by rintro w' ⟨s0,s1⟩;go_simp;with_reducible rfl)⟩) hHeld cM ?_
 refine fL (i:=8) (N:=some 22) #[true,true,true,true,true,true,true,true,true,false,false,true,false,false] rfl rfl (eV dh.out rq.out aq) (fun _ _ _ h=>h) (Or.inl ⟨by rfl,(by rintro w' ⟨s0,s1⟩;go_simp;with_reducible rfl)⟩) hHeld cM ?_
 refine aN (i:=9) (N:=some 23) #[true,true,true,true,true,true,true,true,true,true,false,true,false,false] rfl rfl (bf dh.out aq) (fun _ _ _ h=>h) (Or.inl ⟨by rfl,cD⟩) cM ?_
 refine nP (i:=10) (N:=some 24) #[true,true,true,true,true,true,true,true,true,true,true,true,false,false] rfl rfl (jU dh.out aq) bC (fun K hK=>?_)
 refine lF Tryz.func139 aq rfl #[.string (t150.extract (gZ:Int).toNat (t151:Int).toNat)] (by rfl) rfl rfl dK ?_
 with_reducible refine (eX.calls (t150.extract (gZ:Int).toNat (t151:Int).toNat) t152 _ A6.out).mono ?_
 rintro e pF ⟨rfl,hb⟩
 have axN:=(hb.cell (World.block_lt_of_cell? _ _ (hHeld.1))).trans (hHeld.1)
 have axO:=(hb.cell (World.block_lt_of_cell? _ _ (hHeld.2))).trans (hHeld.2)
 refine ⟨_,rfl,?_⟩
 have kj:=ah.mk (dR.below sJ hb)
 have ko:=ah.mk (dF.trans kr (dF.of_below hb g none) (.inl rfl))
 have mV:=ah.mk (ay aJ hb)
 clear rB
 clear HK
 clear HB
 have rB:=kj
 have HK:=ko
 have HB:=mV
 clear kj ko mV
 refine hK.out _ _ ⟨axN,axO⟩ (fun hHeld=>?_)
 clear hK K
 refine ku (a':=?_) ?_ ?_
 rotate_left
 ·show Act.put _ (some 24) _=_
  simp only [Act.put,List.setIfInBounds_toArray,List.set_cons_zero,List.set_cons_succ,aV,aW]
  rfl
 refine aN (i:=12) (N:=some 2) #[true,true,true,true,true,true,true,true,true,true,true,true,true,false] rfl rfl (bf dh.out aq) (fun _ _ _ h=>h) (Or.inl ⟨by rfl,cD⟩) cM ?_
 refine aN (i:=13) (N:=some 3) #[true,true,true,true,true,true,true,true,true,true,true,true,true,true] rfl rfl (bf dh.out aq) (fun _ _ _ h=>h) (Or.inl ⟨by rfl,cD⟩) cM ?_
 refine nv (nJ dh.out aq) ?_
 try go_wp2
 go_ret2
 exact ⟨by rfl,sJ,aJ,kr⟩
def lS.f (a0:ByteArray):Option (Bool):=some (decide ((a0.size:Int) > 63))
theorem lS.calls (a0:ByteArray) (r:Bool) (w:World) (h:lS.f a0=some r):
 Calls Tryz.prog 142 #[.string a0] w fun e w'=>e= .returned (.bool r)∧iy w w':=by
 have H:(some (decide ((a0.size:Int) > 63)))=some r:=h
 clear h
 obtain rfl:=Option.some.inj H
 go_enter Tryz.func142,Tryz.ntmps142
 go_wp2
 go_ret
 exact ⟨by rfl,mB⟩
def aK.l0:Nat→List ByteArray→Int→Int→Option (Int)
 | 0,_,_,_ =>none
 |k + 1,x0,x7,x8=>if x8 < x7 then (if 0≤x8 then (if x8 < (x0.length:Int) then ((lS.f (nu ByteArray.empty x0 x8)).bind fun t154=>(if t154=true then (some x8) else (aK.l0 k x0 x7 (wrap64 (x8 + 1))))) else (none)) else (none)) else (some (-1))
def aK.f (k:Nat) (l0:List ByteArray):Option (Int):=aK.l0 k l0 (l0.length:Int) 0
theorem aK.ey:∀ k,(∀ y0 y1 y2,eZ (aK.l0 k y0 y1 y2) (aK.l0 (k + 1) y0 y1 y2))
 | 0=>fun _ _ _ r h=>by simp [aK.l0] at h
 |k + 1=>by
  have mH:=aK.ey k
  ·intro y0 y1 y2
   unfold aK.l0
   repeat' (with_reducible first|exact mH _ _ _|exact eZ.refl _|refine eZ.ite ?_ ?_|refine eZ.bind ?_ (fun _ =>?_))
theorem aK.mono:∀ a0 k,eZ (aK.f k a0) (aK.f (k + 1) a0):=by
 intro a0 k
 have mH:=aK.ey k
 unfold aK.f
 repeat' (with_reducible exact mH _ _ _)
theorem aK.calls (k:Nat) (A0:Option Addr) (c0:Nat) (l0:List ByteArray) (r:Int) (w:World) (nK:Kd.C Kd.string w A0 l0.length l0) (hc0:l0.length≤c0) (h:aK.f k l0=some r):
 Calls Tryz.prog 184 #[.slice A0 l0.length c0,.func (.func 142) #[] #[]] w fun e w'=>e= .returned (.int .i64 r)∧iy w w':=by
 have q9:=ah.mk nK
 have Fy:=ah.mk hc0
 clear nK hc0
 have H:(aK.l0 k l0 (l0.length:Int) 0)=some r:=h
 clear h
 have H':=ah.mk H
 clear H
 go_enter Tryz.func184,Tryz.ntmps184
 go_wp2
 go_loopg [8] k (fun kq v8 w'=>∃ (fY:Int),v8= .int .i64 fY∧ah (aK.l0 kq l0 (l0.length:Int) fY=some r)∧ah (kq≤k)∧iy w w')
 case atStart=>exact ⟨(0),(by rfl),H',⟨Nat.le_refl _⟩,mB⟩
 case round=>
  clear H'
  obtain ⟨fY,rfl,HA,qi,⟨m1,rfl⟩⟩:=hrel
  cases gk with
  |zero=>exact absurd HA.out (by simp [aK.l0])
  |succ k1=>
   have H:=HA.out
   clear HA
   simp only [aK.l0] at H
   by_cases c3:fY < (l0.length:Int)
   ·rw [if_pos c3] at H
    have ny:=decide_eq_true c3
    clear c3
    obtain ⟨c4,H⟩:=lO H
    have mQ:=decide_eq_true c4
    clear c4
    obtain ⟨c5,H⟩:=lO H
    have p8:=decide_eq_true c5
    clear c5
    obtain ⟨t154,A6,H⟩:=bd_ H
    by_cases c7:t154=true
    ·subst c7
     rw [if_pos rfl] at H
     obtain rfl:=Option.some.inj H
     have Ms: 0≤(fY:Int):=of_decide_eq_true cj
     have Mt:fY < (l0.length:Int):=of_decide_eq_true cj
     obtain ⟨afz,acM,Wb⟩:=Kd.j5 q9.out fY Ms Mt
     cases acM
     replace Ms:=eq_true Ms
     replace Mt:=eq_true Mt
     go_wp2_with ((go_at_call 142;(with_reducible refine (lS.calls (nu ByteArray.empty l0 fY) true _ A6.out).mono ?_);rintro e w' ⟨rfl,⟨nd,rfl⟩⟩))
     go_ret
     exact ⟨by rfl,kQ⟩
    ·replace c7:=Bool.eq_false_iff.mpr c7
     subst c7
     rw [if_neg (show ¬ (false=true) by decide)] at H
     have H':=ah.mk H
     clear H
     have Ms: 0≤(fY:Int):=of_decide_eq_true cj
     have Mt:fY < (l0.length:Int):=of_decide_eq_true cj
     obtain ⟨afz,acM,Wb⟩:=Kd.j5 q9.out fY Ms Mt
     cases acM
     replace Ms:=eq_true Ms
     replace Mt:=eq_true Mt
     go_wp2_with ((go_at_call 142;(with_reducible refine (lS.calls (nu ByteArray.empty l0 fY) false _ A6.out).mono ?_);rintro e w' ⟨rfl,⟨nd,rfl⟩⟩))
     go_roundg k1
     case measure=>have:=qi.out;omega
     case rel=>exact ⟨(wrap64 (fY + 1)),(by rfl),H',⟨lu⟩,kQ⟩
   ·rw [if_neg c3] at H
    have ny:=decide_eq_false c3
    clear c3
    obtain rfl:=Option.some.inj H
    go_wp2
    go_ret
    exact ⟨by rfl,kQ⟩
def bS.f (k:Nat) (l0:List ByteArray):Option (Bool):=(aK.f k l0).bind fun t155=>(some (decide (t155≥0)))
theorem bS.mono:∀ a0 k,eZ (bS.f k a0) (bS.f (k + 1) a0):=by
 intro a0 k
 unfold bS.f
 repeat' (with_reducible first|exact aK.mono _ _|exact eZ.refl _|refine eZ.bind ?_ (fun _ =>?_))
theorem bS.calls (k:Nat) (A0:Option Addr) (c0:Nat) (l0:List ByteArray) (r:Bool) (w:World) (nK:Kd.C Kd.string w A0 l0.length l0) (hc0:l0.length≤c0) (h:bS.f k l0=some r):
 Calls Tryz.prog 140 #[.slice A0 l0.length c0,.func (.func 142) #[] #[]] w fun e w'=>e= .returned (.bool r)∧iy w w':=by
 have q9:=ah.mk nK
 have Fy:=ah.mk hc0
 clear nK hc0
 have H:((aK.f k l0).bind fun t155=>(some (decide (t155≥0))))=some r:=h
 clear h
 obtain ⟨t155,A3,H⟩:=bd_ H
 obtain rfl:=Option.some.inj H
 go_enter Tryz.func140,Tryz.ntmps140
 go_wp2_with (((with_reducible refine bK (f:=184) rfl ?_);refine dB (some 7) rfl rfl Tryz.func184 aq rfl #[.slice A0 l0.length c0,.func (.func 142) #[] #[]] rfl dK ?_;(with_reducible refine (aK.calls k _ _ l0 t155 _ ?bn ?bN A3.out).mono ?_);(case bn=>repeat (exact q9.out));(case bN=>exact Fy.out);rintro e w' ⟨rfl,⟨nd,rfl⟩⟩;refine ⟨_,rfl,?_⟩))
 go_ret
 exact ⟨by rfl,kQ⟩
def fZ.f (k:Nat) (a0:ByteArray):Option (Bool):=if (a0.size:Int)≤255 then ((strings_Split.f a0 (⟨#[46]⟩:ByteArray)).bind fun t156=>((bS.f k t156).bind fun t159=>(some (!t159)))) else (some false)
theorem fZ.mono:∀ a0 k,eZ (fZ.f k a0) (fZ.f (k + 1) a0):=by
 intro a0 k
 unfold fZ.f
 repeat' (with_reducible first|exact bS.mono _ _|exact eZ.refl _|refine eZ.ite ?_ ?_|refine eZ.bind ?_ (fun _ =>?_))
theorem fZ.calls (k:Nat) (a0:ByteArray) (r:Bool) (w:World) (hG:bq w) (h:fZ.f k a0=some r):
 Calls Tryz.prog 94 #[.string a0] w fun e w'=>e= .returned (.bool r)∧Below w.heap.size w w':=by
 have HB:=ah.mk (Below.refl w.heap.size w)
 have HG:=ah.mk hG
 clear hG
 have H:(if (a0.size:Int)≤255 then ((strings_Split.f a0 (⟨#[46]⟩:ByteArray)).bind fun t156=>((bS.f k t156).bind fun t159=>(some (!t159)))) else (some false))=some r:=h
 clear h
 by_cases c2:(a0.size:Int)≤255
 ·rw [if_pos c2] at H
  have Aw:=decide_eq_true c2
  have TK:decide (a0.size≤255)=true:=decide_eq_true az
  clear c2
  obtain ⟨t156,A3,H⟩:=bd_ H
  obtain ⟨t159,A4,H⟩:=bd_ H
  obtain rfl:=Option.some.inj H
  go_enter Tryz.func94,Tryz.ntmps94
  go_wp2_with (first|(go_at_call 141;(with_reducible refine (strings_Split.calls a0 (⟨#[46]⟩:ByteArray) t156 _ ?bn A3.out).mono ?_);(case bn=>exact bq.below HG.out aJ);rintro e w5 ⟨v157,rfl,ho0,hb⟩;have TW:=ah.mk (Kd.dX ho0 (b7 aJ));replace HB:=ah.mk (ay aJ hb);(try clear hb);(try clear ho0);obtain ⟨Ao6,co6,eo6⟩:=Kd.dm TW.out;subst eo6)|(go_at_call 140;(with_reducible refine (bS.calls k _ _ t156 t159 _ ?bn ?bN A4.out).mono ?_);(case bn=>repeat (exact (Kd.ck TW.out).2.2));(case bN=>exact (Kd.ck TW.out).2.1);rintro e w' ⟨rfl,⟨nd,rfl⟩⟩))
  go_ret
  exact ⟨by rfl,dZ⟩
 ·rw [if_neg c2] at H
  have Aw:=decide_eq_false c2
  have TK:decide (a0.size≤255)=false:=decide_eq_false az
  clear c2
  obtain rfl:=Option.some.inj H
  go_enter Tryz.func94,Tryz.ntmps94
  go_wp2
  go_ret
  exact ⟨by rfl,aJ⟩
def iB.f (k:Nat) (a0:ByteArray):Option (Bool):=(cG.f k a0 0).bind fun KP=>(if KP.2.1=true then (if KP.2.2.2=(a0.size:Int) then ((fZ.f k a0).bind fun t165=>(some t165)) else (some false)) else (some false))
theorem iB.mono:∀ a0 k,eZ (iB.f k a0) (iB.f (k + 1) a0):=by
 intro a0 k
 unfold iB.f
 repeat' (with_reducible first|exact cG.mono _ _ _|exact fZ.mono _ _|exact eZ.refl _|refine eZ.ite ?_ ?_|refine eZ.bind ?_ (fun _ =>?_))
theorem iB.calls (k:Nat) (a0:ByteArray) (r:Bool) (w:World) (hG:bq w) (h:iB.f k a0=some r):
 Calls Tryz.prog 52 #[.string a0] w fun e w'=>e= .returned (.bool r)∧Below w.heap.size w w':=by
 have aAj:=Tryz.underlying132
 have HB:=ah.mk (Below.refl w.heap.size w)
 have HG:=ah.mk hG
 clear hG
 have H:((cG.f k a0 0).bind fun KP=>(if KP.2.1=true then (if KP.2.2.2=(a0.size:Int) then ((fZ.f k a0).bind fun t165=>(some t165)) else (some false)) else (some false)))=some r:=h
 clear h
 obtain ⟨⟨t161,t162,t163,t164⟩,A2,H⟩:=bd_ H
 (try dsimp only at H)
 by_cases c3:t162=true
 ·subst c3
  rw [if_pos rfl] at H
  by_cases c4:t164=(a0.size:Int)
  ·rw [if_pos c4] at H
   have mQ:=beq_iff_eq.mpr c4
   have AE:=bne_eq_false_iff_eq.mpr c4
   clear c4
   obtain ⟨t165,A5,H⟩:=bd_ H
   obtain rfl:=Option.some.inj H
   go_enter Tryz.func52,Tryz.ntmps52
   go_wp2_with (first|((with_reducible refine bp (N:=8) rfl ?_);(try (refine bV (by rfl) ?_;dsimp only));refine br ?hg (N:=8) ?hd (cs:=#[.string a0,.int .i64 0]) (t:=132) ?hr ?_;(case hd=>rfl);(case hg=>rfl);(case hr=>(go_simp;done));intro qa hg w6 bG hb;have vG:=ah.mk ((⟨bG,bF⟩:dR w w6 qa a0 0));have abj:=ah.mk ((bF:w.heap.size≤qa));have abk:=ah.mk ((bF:w.heap.size≤qa));replace HB:=ah.mk (ay aJ hb);clear hb bG hg)|((with_reducible refine bK (f:=93) rfl ?_);refine dB (some 11) rfl rfl Tryz.func93 aq rfl #[.pointer (some ⟨qa,0,none⟩)] rfl dK ?_;(with_reducible refine (cG.calls k qa a0 0 t161 true t163 t164 w _ ?bn ?bN A2.out).mono ?_);(case bn=>repeat (exact vG.out));(case bN=>repeat ((with_reducible exact HB.out)));rintro e w7 ⟨rfl,hi,hb,hk⟩;refine ⟨_,rfl,?_⟩;replace HB:=ah.mk (hb);replace vG:=ah.mk (hi);(try clear hb);(try clear hk);(try clear hi);obtain ⟨DU,acJ⟩:=vG.out;have DV:=kA DU;have DW:=kB DU;have DX:=aa DU 0;have DY:=aa DU 1;clear DU acJ)|(go_at_call 94;(with_reducible refine (fZ.calls k a0 t165 _ ?bn A5.out).mono ?_);(case bn=>exact bq.below HG.out aJ);rintro e w9 ⟨rfl,hb⟩;replace HB:=ah.mk (ay aJ hb);replace vG:=ah.mk (dR.below (by repeat ((with_reducible exact vG.out))) hb);(try clear hb)))
   go_ret
   exact ⟨by rfl,aJ⟩
  ·rw [if_neg c4] at H
   have mQ:=beq_eq_false_iff_ne.mpr c4
   have AE:=bne_iff_ne.mpr c4
   obtain rfl:=Option.some.inj H
   go_enter Tryz.func52,Tryz.ntmps52
   go_wp2_with (first|((with_reducible refine bp (N:=8) rfl ?_);(try (refine bV (by rfl) ?_;dsimp only));refine br ?hg (N:=8) ?hd (cs:=#[.string a0,.int .i64 0]) (t:=132) ?hr ?_;(case hd=>rfl);(case hg=>rfl);(case hr=>(go_simp;done));intro qa hg pF bG hb;have vG:=ah.mk ((⟨bG,bF⟩:dR w pF qa a0 0));have abj:=ah.mk ((bF:w.heap.size≤qa));have abk:=ah.mk ((bF:w.heap.size≤qa));replace HB:=ah.mk (ay aJ hb);clear hb bG hg)|((with_reducible refine bK (f:=93) rfl ?_);refine dB (some 11) rfl rfl Tryz.func93 aq rfl #[.pointer (some ⟨qa,0,none⟩)] rfl dK ?_;(with_reducible refine (cG.calls k qa a0 0 t161 true t163 t164 w _ ?bn ?bN A2.out).mono ?_);(case bn=>repeat (exact vG.out));(case bN=>repeat ((with_reducible exact HB.out)));rintro e xq ⟨rfl,hi,hb,hk⟩;refine ⟨_,rfl,?_⟩;replace HB:=ah.mk (hb);replace vG:=ah.mk (hi);(try clear hb);(try clear hk);(try clear hi);obtain ⟨KQ,afA⟩:=vG.out;have xu:=kA KQ;have xw:=kB KQ;have xx:=aa KQ 0;have xy:=aa KQ 1;clear KQ afA))
   go_ret
   exact ⟨by rfl,aJ⟩
 ·replace c3:=Bool.eq_false_iff.mpr c3
  subst c3
  rw [if_neg (show ¬ (false=true) by decide)] at H
  obtain rfl:=Option.some.inj H
  go_enter Tryz.func52,Tryz.ntmps52
  go_wp2_with (first|((with_reducible refine bp (N:=8) rfl ?_);(try (refine bV (by rfl) ?_;dsimp only));refine br ?hg (N:=8) ?hd (cs:=#[.string a0,.int .i64 0]) (t:=132) ?hr ?_;(case hd=>rfl);(case hg=>rfl);(case hr=>(go_simp;done));intro qa hg kI bG hb;have vG:=ah.mk ((⟨bG,bF⟩:dR w kI qa a0 0));have abj:=ah.mk ((bF:w.heap.size≤qa));have abk:=ah.mk ((bF:w.heap.size≤qa));replace HB:=ah.mk (ay aJ hb);clear hb bG hg)|((with_reducible refine bK (f:=93) rfl ?_);refine dB (some 11) rfl rfl Tryz.func93 aq rfl #[.pointer (some ⟨qa,0,none⟩)] rfl dK ?_;(with_reducible refine (cG.calls k qa a0 0 t161 false t163 t164 w _ ?bn ?bN A2.out).mono ?_);(case bn=>repeat (exact vG.out));(case bN=>repeat ((with_reducible exact HB.out)));rintro e LS ⟨rfl,hi,hb,hk⟩;refine ⟨_,rfl,?_⟩;replace HB:=ah.mk (hb);replace vG:=ah.mk (hi);(try clear hb);(try clear hk);(try clear hi)))
  go_ret
  exact ⟨by rfl,aJ⟩
def jr.f (k:Nat) (a0:ByteArray):Option (Bool):=(iB.f k a0).bind fun t166=>(if t166=true then ((eX.f a0).bind fun t167=>(some (t167.toList == a0.toList))) else (some false))
theorem jr.mono:∀ a0 k,eZ (jr.f k a0) (jr.f (k + 1) a0):=by
 intro a0 k
 unfold jr.f
 repeat' (with_reducible first|exact iB.mono _ _|exact eZ.refl _|refine eZ.bind ?_ (fun _ =>?_))
theorem jr.calls (k:Nat) (a0:ByteArray) (r:Bool) (w:World) (hG:bq w) (h:jr.f k a0=some r):
 Calls Tryz.prog 145 #[.string a0] w fun e w'=>e= .returned (.bool r)∧Below w.heap.size w w':=by
 have HB:=ah.mk (Below.refl w.heap.size w)
 have HG:=ah.mk hG
 clear hG
 have H:((iB.f k a0).bind fun t166=>(if t166=true then ((eX.f a0).bind fun t167=>(some (t167.toList == a0.toList))) else (some false)))=some r:=h
 clear h
 obtain ⟨t166,A2,H⟩:=bd_ H
 by_cases c3:t166=true
 ·subst c3
  rw [if_pos rfl] at H
  obtain ⟨t167,A4,H⟩:=bd_ H
  obtain rfl:=Option.some.inj H
  go_enter Tryz.func145,Tryz.ntmps145
  go_wp2_with (first|((with_reducible refine bK (f:=52) rfl ?_);refine dB (some 4) rfl rfl Tryz.func52 aq rfl #[.string a0] rfl dK ?_;(with_reducible refine (iB.calls k a0 true _ ?bn A2.out).mono ?_);(case bn=>exact bq.below HG.out aJ);rintro e w5 ⟨rfl,hb⟩;refine ⟨_,rfl,?_⟩;replace HB:=ah.mk (ay aJ hb);(try clear hb))|(go_at_call 139;(with_reducible refine (eX.calls a0 t167 _ A4.out).mono ?_);rintro e w6 ⟨rfl,hb⟩;replace HB:=ah.mk (ay aJ hb);(try clear hb)))
  go_ret
  exact ⟨by rfl,aJ⟩
 ·replace c3:=Bool.eq_false_iff.mpr c3
  subst c3
  rw [if_neg (show ¬ (false=true) by decide)] at H
  obtain rfl:=Option.some.inj H
  go_enter Tryz.func145,Tryz.ntmps145
  go_wp2_with (((with_reducible refine bK (f:=52) rfl ?_);refine dB (some 4) rfl rfl Tryz.func52 aq rfl #[.string a0] rfl dK ?_;(with_reducible refine (iB.calls k a0 false _ ?bn A2.out).mono ?_);(case bn=>exact bq.below HG.out aJ);rintro e w7 ⟨rfl,hb⟩;refine ⟨_,rfl,?_⟩;replace HB:=ah.mk (ay aJ hb);(try clear hb)))
  go_ret
  exact ⟨by rfl,aJ⟩
end Go.Proofs.YtbjjaaodfbjkfaaGreatDoor.mU
