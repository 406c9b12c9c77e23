import Derived.Test.YtbjjaaodfbjkfaaGreatDoorQQux5
import Derived.Test.YtbjjaaodfbjkfaaGreatDoorESmall
import Derived.Test.YtbjjaaodfbjkfaaGreatDoorEStr
set_option maxHeartbeats 8000000
set_option maxRecDepth 100000
namespace Go.Proofs.YtbjjaaodfbjkfaaGreatDoor.mN
open Go.RowKit Go.Proofs.YtbjjaaodfbjkfaaGreatDoor.xV Go.Proofs.ak.bQ Go.Proofs.ak.dA Go.Proofs.ak.cX
attribute [local go_sem] jc jd j4 j5 gU gV je jf
set_option linter.unusedVariables false
set_option linter.unusedSimpArgs false
def aX.l0:Nat→Int→ByteArray→Int→Option (Bool×ByteArray×Int)
 | 0,_,_,_ =>none
 |k + 1,x1,vY,qx=>(eZ.f k vY qx).bind fun J7=>(if J7.1=true then ((ji.f J7.2.1 J7.2.2 x1).bind fun J8=>(if J8.1=true then (aX.l0 k x1 J8.2.1 J8.2.2) else (some (true,J8.2.1,J8.2.2)))) else (some (false,J7.2.1,J7.2.2)))
def aX.f (k:Nat) (jL:ByteArray) (gX:Int) (a1:Int):Option (Bool×ByteArray×Int):=aX.l0 k a1 jL gX
theorem aX.ey:∀ k,(∀ y0 y1 y2,eY (aX.l0 k y0 y1 y2) (aX.l0 (k + 1) y0 y1 y2))
 | 0=>fun _ _ _ r h=>by simp [aX.l0] at h
 |k + 1=>by
  have mC:=aX.ey k
  ·intro y0 y1 y2
   unfold aX.l0
   repeat' (with_reducible first|exact mC _ _ _|exact eZ.mono _ _ _|exact eY.refl _|refine eY.ite ?_ ?_|refine eY.bind ?_ (fun _ =>?_))
theorem aX.mono:∀ a0 a1 a2 k,eY (aX.f k a0 a1 a2) (aX.f (k + 1) a0 a1 a2):=by
 intro a0 a1 a2 k
 have mC:=aX.ey k
 unfold aX.f
 repeat' (with_reducible exact mC _ _ _)
theorem aX.calls (k:Nat) (g:Nat) (jL:ByteArray) (gX:Int) (a1:Int) (r1:Bool) (r2:ByteArray) (r3:Int) (w0 w:World) (hI:eo w0 w g jL gX) (hB:Below w0.heap.size w0 w) (h:aX.f k jL gX a1=some (r1,r2,r3)):
 Calls Tryz.prog 137 #[.pointer (some ⟨g,0,none⟩),.int .u8 a1,.func (.func 138) #[.pointer (some ⟨g,0,none⟩)] #[]] w fun e w'=>e= .returned (.bool r1)∧eo w0 w' g r2 r3∧Below w0.heap.size w0 w'∧dF w w' g none:=by
 have rz:=ah.mk hI
 have HK:=ah.mk (dF.refl w g none)
 have HL:=ah.mk hB.size
 clear hI
 have HW0:=ah.mk hB.size
 have HB:=ah.mk hB
 clear hB
 have H:(aX.l0 k a1 jL gX)=some (r1,r2,r3):=h
 clear h
 have H':=ah.mk H
 clear H
 go_enter Tryz.func137,Tryz.ntmps137
 go_wp2
 go_loopg [] k (fun kq w'=>∃ (j6:ByteArray) (jt:Int),ah (aX.l0 kq a1 j6 jt=some (r1,r2,r3))∧ah (kq≤k)∧ah (eo w0 w' g j6 jt)∧ah (dF w w' g none)∧ah (Below w0.heap.size w0 w'))
 case atStart=>exact ⟨(jL),(gX),H',⟨Nat.le_refl _⟩,⟨sI⟩,⟨jV⟩,⟨aJ⟩⟩
 case round=>
  clear H'
  obtain ⟨j6,jt,HA,qi,rz,HK,HB⟩:=hrel
  cases gk with
  |zero=>exact absurd HA.out (by simp [aX.l0])
  |succ k1=>
   have H:=HA.out
   clear HA
   simp only [aX.l0] at H
   obtain ⟨⟨t143,t144,t145⟩,A4,H⟩:=bd_ H
   (try dsimp only at H)
   by_cases c5:t143=true
   ·subst c5
    rw [if_pos rfl] at H
    obtain ⟨⟨t146,t147,t148⟩,A6,H⟩:=bd_ H
    (try dsimp only at H)
    by_cases c7:t146=true
    ·subst c7
     rw [if_pos rfl] at H
     have H':=ah.mk H
     clear H
     go_wp2_with (first|(go_at_call 138;(with_reducible refine (eZ.calls k1 g j6 jt true t144 t145 w0 _ ?bk ?bM A4.out).mono ?_);(case bk=>repeat ((with_reducible exact rz.out)));(case bM=>repeat ((with_reducible exact HB.out)));rintro e w8 ⟨rfl,hi,hb,hk⟩;replace HK:=ah.mk (dF.trans jV hk (.inl rfl));replace HB:=ah.mk (hb);replace rz:=ah.mk (hi);(try clear hb);(try clear hk);(try clear hi))|((with_reducible refine bH (f:=179) rfl ?_);refine dx (some 11) rfl rfl Tryz.func179 aq rfl #[.pointer (some ⟨g,0,none⟩),.int .u8 a1] rfl dI ?_;(with_reducible refine (ji.calls g t144 t145 a1 true t147 t148 w0 _ ?bk ?bM A6.out).mono ?_);(case bk=>repeat ((with_reducible exact rz.out)));(case bM=>repeat ((with_reducible exact HB.out)));rintro e w9 ⟨rfl,hi,hb,hk⟩;refine ⟨_,rfl,?_⟩;replace HK:=ah.mk (dF.trans jV hk (.inl rfl));replace HB:=ah.mk (hb);replace rz:=ah.mk (hi);(try clear hb);(try clear hk);(try clear hi)))
     go_roundg k1
     case measure=>have:=qi.out;omega
     case rel=>exact ⟨(t147),(t148),H',⟨lI⟩,⟨sI⟩,⟨jV⟩,⟨aJ⟩⟩
    ·replace c7:=Bool.eq_false_iff.mpr c7
     subst c7
     rw [if_neg (show ¬ (false=true) by decide)] at H
     simp only [Option.some.injEq,Prod.mk.injEq] at H
     obtain ⟨rfl,rfl,rfl⟩:=H
     go_wp2_with (first|(go_at_call 138;(with_reducible refine (eZ.calls k1 g j6 jt true t144 t145 w0 _ ?bk ?bM A4.out).mono ?_);(case bk=>repeat ((with_reducible exact rz.out)));(case bM=>repeat ((with_reducible exact HB.out)));rintro e mR ⟨rfl,hi,hb,hk⟩;replace HK:=ah.mk (dF.trans jV hk (.inl rfl));replace HB:=ah.mk (hb);replace rz:=ah.mk (hi);(try clear hb);(try clear hk);(try clear hi))|((with_reducible refine bH (f:=179) rfl ?_);refine dx (some 11) rfl rfl Tryz.func179 aq rfl #[.pointer (some ⟨g,0,none⟩),.int .u8 a1] rfl dI ?_;(with_reducible refine (ji.calls g t144 t145 a1 false t147 t148 w0 _ ?bk ?bM A6.out).mono ?_);(case bk=>repeat ((with_reducible exact rz.out)));(case bM=>repeat ((with_reducible exact HB.out)));rintro e vK ⟨rfl,hi,hb,hk⟩;refine ⟨_,rfl,?_⟩;replace HK:=ah.mk (dF.trans jV hk (.inl rfl));replace HB:=ah.mk (hb);replace rz:=ah.mk (hi);(try clear hb);(try clear hk);(try clear hi)))
     go_ret
     exact ⟨by rfl,sI,aJ,jV⟩
   ·replace c5:=Bool.eq_false_iff.mpr c5
    subst c5
    rw [if_neg (show ¬ (false=true) by decide)] at H
    simp only [Option.some.injEq,Prod.mk.injEq] at H
    obtain ⟨rfl,rfl,rfl⟩:=H
    go_wp2_with ((go_at_call 138;(with_reducible refine (eZ.calls k1 g j6 jt false t144 t145 w0 _ ?bk ?bM A4.out).mono ?_);(case bk=>repeat ((with_reducible exact rz.out)));(case bM=>repeat ((with_reducible exact HB.out)));rintro e Cx ⟨rfl,hi,hb,hk⟩;replace HK:=ah.mk (dF.trans jV hk (.inl rfl));replace HB:=ah.mk (hb);replace rz:=ah.mk (hi);(try clear hb);(try clear hk);(try clear hi)))
    go_ret
    exact ⟨by rfl,sI,aJ,jV⟩
def cF.f (k:Nat) (jL:ByteArray) (gX:Int):Option (ByteArray×Bool×ByteArray×Int):=(aX.f k jL gX 46).bind fun pX=>(if 0≤gX then (if gX≤pX.2.2 then (if pX.2.2≤(pX.2.1.size:Int) then ((eW.f (pX.2.1.extract (gX:Int).toNat (pX.2.2:Int).toNat)).bind fun t152=>(some (t152,pX.1,pX.2.1,pX.2.2))) else (none)) else (none)) else (none))
theorem cF.mono:∀ a0 a1 k,eY (cF.f k a0 a1) (cF.f (k + 1) a0 a1):=by
 intro a0 a1 k
 unfold cF.f
 repeat' (with_reducible first|exact aX.mono _ _ _ _|exact eY.refl _|refine eY.bind ?_ (fun _ =>?_))
def cF.T3:Bool×List (List Nat×List Nat):=(true,[([],[]),([0],[0]),([1],[1]),([2],[2]),([],[]),([],[]),([5],[5]),([6],[6]),([7],[7]),([3,4,8],[3,4,8]),([9],[9]),([],[]),([10,10,0,1,2,3,4,5,6,7,8,9,10],[10]),([11,12,0,1,2,3,4,5,6,7,8,9,10,11,12],[11])])
def cF.B3:List Nat:=[0,1,3,7,0,0,32,96,224,511,1023,0,2047,8191]
theorem cF.awu:pW .any (opsOf Tryz.f93 3)=cF.T3:=by kernel_rfl
theorem cF.aee:pP cF.T3.2 cF.B3=true:=by kernel_rfl
theorem cF.calls (k:Nat) (g:Nat) (jL:ByteArray) (gX:Int) (r1:ByteArray) (r2:Bool) (r3:ByteArray) (r4:Int) (w0 w:World) (hI:eo w0 w g jL gX) (hB:Below w0.heap.size w0 w) (h:cF.f k jL gX=some (r1,r2,r3,r4)):
 Calls Tryz.prog 93 #[.pointer (some ⟨g,0,none⟩)] w fun e w'=>e= .returned (.tuple #[.string r1,.bool r2])∧eo w0 w' g r3 r4∧Below w0.heap.size w0 w'∧dF w w' g none:=by
 have rz:=ah.mk hI
 have HK:=ah.mk (dF.refl w g none)
 have HL:=ah.mk hB.size
 clear hI
 have HW0:=ah.mk hB.size
 have HB:=ah.mk hB
 clear hB
 have H:((aX.f k jL gX 46).bind fun pX=>(if 0≤gX then (if gX≤pX.2.2 then (if pX.2.2≤(pX.2.1.size:Int) then ((eW.f (pX.2.1.extract (gX:Int).toNat (pX.2.2:Int).toNat)).bind fun t152=>(some (t152,pX.1,pX.2.1,pX.2.2))) else (none)) else (none)) else (none)))=some (r1,r2,r3,r4):=h
 clear h
 obtain ⟨⟨t149,t150,t151⟩,A2,H⟩:=bd_ H
 (try dsimp only at H)
 obtain ⟨c3,H⟩:=lJ H
 have nr:=eq_true c3
 have xk:=decide_eq_true c3
 clear c3
 obtain ⟨c4,H⟩:=lJ H
 have mo:=eq_true c4
 have Aj:=decide_eq_true c4
 clear c4
 obtain ⟨c5,H⟩:=lJ H
 have pG:=eq_true c5
 have Lx:=decide_eq_true c5
 clear c5
 obtain ⟨t152,A6,H⟩:=bd_ H
 simp only [Option.some.injEq,Prod.mk.injEq] at H
 obtain ⟨rfl,rfl,rfl,rfl⟩:=H
 obtain ⟨Dt,abk⟩:=rz.out
 have Gy:=jX Dt
 have Gz:=jY Dt
 have GA:=aa Dt 0
 have GC:=aa Dt 1
 clear Dt abk
 go_enter Tryz.func93,Tryz.ntmps93
 try go_wp2_with (((with_reducible refine bH (f:=137) rfl ?_);refine dx (some 13) rfl rfl Tryz.func137 aq rfl #[.pointer (some ⟨g,0,none⟩),.int .u8 46,.func (.func 138) #[.pointer (some ⟨g,0,none⟩)] #[]] rfl dI ?_;(with_reducible refine (aX.calls k g jL gX 46 t149 t150 t151 w0 _ ?bk ?bM A2.out).mono ?_);(case bk=>repeat ((with_reducible exact rz.out)));(case bM=>repeat ((with_reducible exact HB.out)));rintro e w8 ⟨rfl,hi,hb,hk⟩;refine ⟨_,rfl,?_⟩;replace HK:=ah.mk (dF.trans jV hk (.inl rfl));replace HB:=ah.mk (hb);replace rz:=ah.mk (hi);(try clear hb);(try clear hk);(try clear hi)))
 have jT:=ah.mk (eo.drew rz.out)
 have jU:=ah.mk (Qo HK.out)
 have mO:=ah.mk (fW HB.out)
 clear rz
 clear HK
 clear HB
 have rz:=jT
 have HK:=jU
 have HB:=mO
 clear jT jU mO
 refine kK (n:=14) (S:=fun w'=>w'.cell? ⟨g,0,none⟩=some (.string t150)∧w'.cell? ⟨g,1,none⟩=some (.int .i64 t151)) (ds:=[]) #[false,false,false,false,false,false,false,false,false,false,false,false,false,false] aq (by rfl) (by rfl) ⟨jX rz.out.1,jY rz.out.1⟩ (fun hHeld=>?_);refine kB cF.awu cF.aee (fun dc q8=>?_)
 generalize w8.drew=w9 at rz HK HB hHeld ⊢
 refine aN (i:=0) (N:=some 14) #[true,false,false,false,false,false,false,false,false,false,false,false,false,false] rfl rfl (bg dc.out aq) (fun _ _ _ h=>h) (Or.inl ⟨by rfl,cD⟩) cL ?_
 refine aN (i:=1) (N:=some 15) #[true,true,false,false,false,false,false,false,false,false,false,false,false,false] rfl rfl (bg dc.out aq) (fun _ _ _ h=>h) (Or.inl ⟨by rfl,cD⟩) cL ?_
 refine aN (i:=2) (N:=some 16) #[true,true,true,false,false,false,false,false,false,false,false,false,false,false] rfl rfl (bg dc.out aq) (fun _ _ _ h=>h) (Or.inl ⟨by rfl,cD⟩) cL ?_
 refine aN (i:=4) (N:=some 18) #[true,true,true,false,true,false,false,false,false,false,false,false,false,false] rfl rfl (bg dc.out aq) (fun _ _ _ h=>h) (Or.inl ⟨by rfl,cD⟩) cL ?_
 refine aN (i:=5) (N:=some 19) #[true,true,true,false,true,true,false,false,false,false,false,false,false,false] rfl rfl (bg dc.out aq) (fun _ _ _ h=>h) (Or.inl ⟨by rfl,cD⟩) cL ?_
 refine aN (i:=6) (N:=some 20) #[true,true,true,false,true,true,true,false,false,false,false,false,false,false] rfl rfl (bg dc.out aq) (fun _ _ _ h=>h) (Or.inl ⟨by rfl,cD⟩) cL ?_
 refine aN (i:=7) (N:=some 21) #[true,true,true,false,true,true,true,true,false,false,false,false,false,false] rfl rfl (bg dc.out aq) (fun _ _ _ h=>h) (Or.inl ⟨by rfl,cD⟩) cL ?_
 refine aN (i:=11) (N:=some 25) #[true,true,true,false,true,true,true,true,false,false,false,true,false,false] rfl rfl (bg dc.out aq) (fun _ _ _ h=>h) (Or.inl ⟨by rfl,cD⟩) cL ?_
 refine fN (i:=3) (N:=some 17) #[true,true,true,true,true,true,true,true,false,false,false,true,false,false] rfl rfl (eU dc.out q8.out aq) (fun _ _ _ h=>h) (Or.inl ⟨by rfl,(by rintro w' ⟨s0,s1⟩;go_simp;with_reducible rfl)⟩) hHeld cL ?_
 refine fN (i:=8) (N:=some 22) #[true,true,true,true,true,true,true,true,true,false,false,true,false,false] rfl rfl (eU dc.out q8.out aq) (fun _ _ _ h=>h) (Or.inl ⟨by rfl,(by rintro w' ⟨s0,s1⟩;go_simp;with_reducible rfl)⟩) hHeld cL ?_
 refine aN (i:=9) (N:=some 23) #[true,true,true,true,true,true,true,true,true,true,false,true,false,false] rfl rfl (bg dc.out aq) (fun _ _ _ h=>h) (Or.inl ⟨by rfl,cD⟩) cL ?_
 refine nL (i:=10) (N:=some 24) #[true,true,true,true,true,true,true,true,true,true,true,true,false,false] rfl rfl (jJ dc.out aq) bB (fun K hK=>?_)
 refine lg Tryz.func139 aq rfl #[.string (t150.extract (gX:Int).toNat (t151:Int).toNat)] (by rfl) rfl rfl dI ?_
 with_reducible refine (eW.calls (t150.extract (gX:Int).toNat (t151:Int).toNat) t152 _ A6.out).mono ?_
 rintro e mR ⟨rfl,hb⟩
 have awv:=(hb.cell (World.block_lt_of_cell? _ _ (hHeld.1))).trans (hHeld.1)
 have aww:=(hb.cell (World.block_lt_of_cell? _ _ (hHeld.2))).trans (hHeld.2)
 refine ⟨_,rfl,?_⟩
 have jT:=ah.mk (eo.below sI hb)
 have jU:=ah.mk (dF.trans jV (dF.of_below hb g none) (.inl rfl))
 have mO:=ah.mk (ay aJ hb)
 clear rz
 clear HK
 clear HB
 have rz:=jT
 have HK:=jU
 have HB:=mO
 clear jT jU mO
 refine hK.out _ _ ⟨awv,aww⟩ (fun hHeld=>?_)
 clear hK K
 refine jW (a':=?_) ?_ ?_
 rotate_left
 ·show Act.put _ (some 24) _=_
  simp only [Act.put,List.setIfInBounds_toArray,List.set_cons_zero,List.set_cons_succ,aU,aV]
  rfl
 refine aN (i:=12) (N:=some 2) #[true,true,true,true,true,true,true,true,true,true,true,true,true,false] rfl rfl (bg dc.out aq) (fun _ _ _ h=>h) (Or.inl ⟨by rfl,cD⟩) cL ?_
 refine aN (i:=13) (N:=some 3) #[true,true,true,true,true,true,true,true,true,true,true,true,true,true] rfl rfl (bg dc.out aq) (fun _ _ _ h=>h) (Or.inl ⟨by rfl,cD⟩) cL ?_
 refine nk (nD dc.out aq) ?_
 try go_wp2
 go_ret2
 exact ⟨by rfl,sI,aJ,jV⟩
def lM.f (a0:ByteArray):Option (Bool):=some (decide ((a0.size:Int) > 63))
theorem lM.calls (a0:ByteArray) (r:Bool) (w:World) (h:lM.f a0=some r):
 Calls Tryz.prog 142 #[.string a0] w fun e w'=>e= .returned (.bool r)∧ij w w':=by
 have H:(some (decide ((a0.size:Int) > 63)))=some r:=h
 clear h
 obtain rfl:=Option.some.inj H
 go_enter Tryz.func142,Tryz.ntmps142
 go_wp2
 go_ret
 exact ⟨by rfl,mj⟩
def aK.l0:Nat→List ByteArray→Int→Int→Option (Int)
 | 0,_,_,_ =>none
 |k + 1,x0,x7,x8=>if x8 < x7 then (if 0≤x8 then (if x8 < (x0.length:Int) then ((lM.f (nj ByteArray.empty x0 x8)).bind fun t154=>(if t154=true then (some x8) else (aK.l0 k x0 x7 (wrap64 (x8 + 1))))) else (none)) else (none)) else (some (-1))
def aK.f (k:Nat) (l0:List ByteArray):Option (Int):=aK.l0 k l0 (l0.length:Int) 0
theorem aK.ey:∀ k,(∀ y0 y1 y2,eY (aK.l0 k y0 y1 y2) (aK.l0 (k + 1) y0 y1 y2))
 | 0=>fun _ _ _ r h=>by simp [aK.l0] at h
 |k + 1=>by
  have mC:=aK.ey k
  ·intro y0 y1 y2
   unfold aK.l0
   repeat' (with_reducible first|exact mC _ _ _|exact eY.refl _|refine eY.ite ?_ ?_|refine eY.bind ?_ (fun _ =>?_))
theorem aK.mono:∀ a0 k,eY (aK.f k a0) (aK.f (k + 1) a0):=by
 intro a0 k
 have mC:=aK.ey k
 unfold aK.f
 repeat' (with_reducible exact mC _ _ _)
theorem aK.calls (k:Nat) (A0:Option Addr) (c0:Nat) (l0:List ByteArray) (r:Int) (w:World) (nE:Kd.C Kd.string w A0 l0.length l0) (hc0:l0.length≤c0) (h:aK.f k l0=some r):
 Calls Tryz.prog 184 #[.slice A0 l0.length c0,.func (.func 142) #[] #[]] w fun e w'=>e= .returned (.int .i64 r)∧ij w w':=by
 have qZ:=ah.mk nE
 have E7:=ah.mk hc0
 clear nE hc0
 have H:(aK.l0 k l0 (l0.length:Int) 0)=some r:=h
 clear h
 have H':=ah.mk H
 clear H
 go_enter Tryz.func184,Tryz.ntmps184
 go_wp2
 go_loopg [8] k (fun kq v8 w'=>∃ (gi:Int),v8= .int .i64 gi∧ah (aK.l0 kq l0 (l0.length:Int) gi=some r)∧ah (kq≤k)∧ij w w')
 case atStart=>exact ⟨(0),(by rfl),H',⟨Nat.le_refl _⟩,mj⟩
 case round=>
  clear H'
  obtain ⟨gi,rfl,HA,qi,⟨m1,rfl⟩⟩:=hrel
  cases gk with
  |zero=>exact absurd HA.out (by simp [aK.l0])
  |succ k1=>
   have H:=HA.out
   clear HA
   simp only [aK.l0] at H
   by_cases c3:gi < (l0.length:Int)
   ·rw [if_pos c3] at H
    have nr:=decide_eq_true c3
    clear c3
    obtain ⟨c4,H⟩:=lJ H
    have mo:=decide_eq_true c4
    clear c4
    obtain ⟨c5,H⟩:=lJ H
    have pG:=decide_eq_true c5
    clear c5
    obtain ⟨t154,A6,H⟩:=bd_ H
    by_cases c7:t154=true
    ·subst c7
     rw [if_pos rfl] at H
     obtain rfl:=Option.some.inj H
     have Lz: 0≤(gi:Int):=of_decide_eq_true cu
     have LA:gi < (l0.length:Int):=of_decide_eq_true cu
     obtain ⟨aef,abo,Ve⟩:=Kd.jO qZ.out gi Lz LA
     cases abo
     replace Lz:=eq_true Lz
     replace LA:=eq_true LA
     go_wp2_with ((go_at_call 142;(with_reducible refine (lM.calls (nj ByteArray.empty l0 gi) true _ A6.out).mono ?_);rintro e w' ⟨rfl,⟨nd,rfl⟩⟩))
     go_ret
     exact ⟨by rfl,kI⟩
    ·replace c7:=Bool.eq_false_iff.mpr c7
     subst c7
     rw [if_neg (show ¬ (false=true) by decide)] at H
     have H':=ah.mk H
     clear H
     have Lz: 0≤(gi:Int):=of_decide_eq_true cu
     have LA:gi < (l0.length:Int):=of_decide_eq_true cu
     obtain ⟨aef,abo,Ve⟩:=Kd.jO qZ.out gi Lz LA
     cases abo
     replace Lz:=eq_true Lz
     replace LA:=eq_true LA
     go_wp2_with ((go_at_call 142;(with_reducible refine (lM.calls (nj ByteArray.empty l0 gi) false _ A6.out).mono ?_);rintro e w' ⟨rfl,⟨nd,rfl⟩⟩))
     go_roundg k1
     case measure=>have:=qi.out;omega
     case rel=>exact ⟨(wrap64 (gi + 1)),(by rfl),H',⟨lI⟩,kI⟩
   ·rw [if_neg c3] at H
    have nr:=decide_eq_false c3
    clear c3
    obtain rfl:=Option.some.inj H
    go_wp2
    go_ret
    exact ⟨by rfl,kI⟩
def bS.f (k:Nat) (l0:List ByteArray):Option (Bool):=(aK.f k l0).bind fun t155=>(some (decide (t155≥0)))
theorem bS.mono:∀ a0 k,eY (bS.f k a0) (bS.f (k + 1) a0):=by
 intro a0 k
 unfold bS.f
 repeat' (with_reducible first|exact aK.mono _ _|exact eY.refl _|refine eY.bind ?_ (fun _ =>?_))
theorem bS.calls (k:Nat) (A0:Option Addr) (c0:Nat) (l0:List ByteArray) (r:Bool) (w:World) (nE:Kd.C Kd.string w A0 l0.length l0) (hc0:l0.length≤c0) (h:bS.f k l0=some r):
 Calls Tryz.prog 140 #[.slice A0 l0.length c0,.func (.func 142) #[] #[]] w fun e w'=>e= .returned (.bool r)∧ij w w':=by
 have qZ:=ah.mk nE
 have E7:=ah.mk hc0
 clear nE hc0
 have H:((aK.f k l0).bind fun t155=>(some (decide (t155≥0))))=some r:=h
 clear h
 obtain ⟨t155,A3,H⟩:=bd_ H
 obtain rfl:=Option.some.inj H
 go_enter Tryz.func140,Tryz.ntmps140
 go_wp2_with (((with_reducible refine bH (f:=184) rfl ?_);refine dx (some 7) rfl rfl Tryz.func184 aq rfl #[.slice A0 l0.length c0,.func (.func 142) #[] #[]] rfl dI ?_;(with_reducible refine (aK.calls k _ _ l0 t155 _ ?bk ?bM A3.out).mono ?_);(case bk=>repeat (exact qZ.out));(case bM=>exact E7.out);rintro e w' ⟨rfl,⟨nd,rfl⟩⟩;refine ⟨_,rfl,?_⟩))
 go_ret
 exact ⟨by rfl,kI⟩
def gj.f (k:Nat) (a0:ByteArray):Option (Bool):=if (a0.size:Int)≤255 then ((strings_Split.f a0 (⟨#[46]⟩:ByteArray)).bind fun t156=>((bS.f k t156).bind fun t159=>(some (!t159)))) else (some false)
theorem gj.mono:∀ a0 k,eY (gj.f k a0) (gj.f (k + 1) a0):=by
 intro a0 k
 unfold gj.f
 repeat' (with_reducible first|exact bS.mono _ _|exact eY.refl _|refine eY.ite ?_ ?_|refine eY.bind ?_ (fun _ =>?_))
theorem gj.calls (k:Nat) (a0:ByteArray) (r:Bool) (w:World) (hG:bp w) (h:gj.f k a0=some r):
 Calls Tryz.prog 94 #[.string a0] w fun e w'=>e= .returned (.bool r)∧Below w.heap.size w w':=by
 have HB:=ah.mk (Below.refl w.heap.size w)
 have HG:=ah.mk hG
 clear hG
 have H:(if (a0.size:Int)≤255 then ((strings_Split.f a0 (⟨#[46]⟩:ByteArray)).bind fun t156=>((bS.f k t156).bind fun t159=>(some (!t159)))) else (some false))=some r:=h
 clear h
 by_cases c2:(a0.size:Int)≤255
 ·rw [if_pos c2] at H
  have Ae:=decide_eq_true c2
  have SQ:decide (a0.size≤255)=true:=decide_eq_true aA
  clear c2
  obtain ⟨t156,A3,H⟩:=bd_ H
  obtain ⟨t159,A4,H⟩:=bd_ H
  obtain rfl:=Option.some.inj H
  go_enter Tryz.func94,Tryz.ntmps94
  go_wp2_with (first|(go_at_call 141;(with_reducible refine (strings_Split.calls a0 (⟨#[46]⟩:ByteArray) t156 _ ?bk A3.out).mono ?_);(case bk=>exact bp.below HG.out aJ);rintro e w5 ⟨v157,rfl,ho0,hb⟩;have SZ:=ah.mk (Kd.dW ho0 (cg aJ));replace HB:=ah.mk (ay aJ hb);(try clear hb);(try clear ho0);obtain ⟨Ao6,co6,eo6⟩:=Kd.dh SZ.out;subst eo6)|(go_at_call 140;(with_reducible refine (bS.calls k _ _ t156 t159 _ ?bk ?bM A4.out).mono ?_);(case bk=>repeat (exact (Kd.ck SZ.out).2.2));(case bM=>exact (Kd.ck SZ.out).2.1);rintro e w' ⟨rfl,⟨nd,rfl⟩⟩))
  go_ret
  exact ⟨by rfl,dY⟩
 ·rw [if_neg c2] at H
  have Ae:=decide_eq_false c2
  have SQ:decide (a0.size≤255)=false:=decide_eq_false aA
  clear c2
  obtain rfl:=Option.some.inj H
  go_enter Tryz.func94,Tryz.ntmps94
  go_wp2
  go_ret
  exact ⟨by rfl,aJ⟩
def iy.f (k:Nat) (a0:ByteArray):Option (Bool):=(cF.f k a0 0).bind fun J9=>(if J9.2.1=true then (if J9.2.2.2=(a0.size:Int) then ((gj.f k a0).bind fun t165=>(some t165)) else (some false)) else (some false))
theorem iy.mono:∀ a0 k,eY (iy.f k a0) (iy.f (k + 1) a0):=by
 intro a0 k
 unfold iy.f
 repeat' (with_reducible first|exact cF.mono _ _ _|exact gj.mono _ _|exact eY.refl _|refine eY.ite ?_ ?_|refine eY.bind ?_ (fun _ =>?_))
theorem iy.calls (k:Nat) (a0:ByteArray) (r:Bool) (w:World) (hG:bp w) (h:iy.f k a0=some r):
 Calls Tryz.prog 52 #[.string a0] w fun e w'=>e= .returned (.bool r)∧Below w.heap.size w w':=by
 have ay2:=Tryz.underlying132
 have HB:=ah.mk (Below.refl w.heap.size w)
 have HG:=ah.mk hG
 clear hG
 have H:((cF.f k a0 0).bind fun J9=>(if J9.2.1=true then (if J9.2.2.2=(a0.size:Int) then ((gj.f k a0).bind fun t165=>(some t165)) else (some false)) else (some false)))=some r:=h
 clear h
 obtain ⟨⟨t161,t162,t163,t164⟩,A2,H⟩:=bd_ H
 (try dsimp only at H)
 by_cases c3:t162=true
 ·subst c3
  rw [if_pos rfl] at H
  by_cases c4:t164=(a0.size:Int)
  ·rw [if_pos c4] at H
   have mo:=beq_iff_eq.mpr c4
   have Aj:=bne_eq_false_iff_eq.mpr c4
   clear c4
   obtain ⟨t165,A5,H⟩:=bd_ H
   obtain rfl:=Option.some.inj H
   go_enter Tryz.func52,Tryz.ntmps52
   go_wp2_with (first|((with_reducible refine bq (N:=8) rfl ?_);(try (refine bV (by rfl) ?_;dsimp only));refine br ?hg (N:=8) ?hd (cs:=#[.string a0,.int .i64 0]) (t:=132) ?hr ?_;(case hd=>rfl);(case hg=>rfl);(case hr=>(go_simp;done));intro pY hg w6 bJ hb;have vB:=ah.mk ((⟨bJ,bI⟩:eo w w6 pY a0 0));have aab:=ah.mk ((bI:w.heap.size≤pY));have aac:=ah.mk ((bI:w.heap.size≤pY));replace HB:=ah.mk (ay aJ hb);clear hb bJ hg)|((with_reducible refine bH (f:=93) rfl ?_);refine dx (some 11) rfl rfl Tryz.func93 aq rfl #[.pointer (some ⟨pY,0,none⟩)] rfl dI ?_;(with_reducible refine (cF.calls k pY a0 0 t161 true t163 t164 w _ ?bk ?bM A2.out).mono ?_);(case bk=>repeat (exact vB.out));(case bM=>repeat ((with_reducible exact HB.out)));rintro e w7 ⟨rfl,hi,hb,hk⟩;refine ⟨_,rfl,?_⟩;replace HB:=ah.mk (hb);replace vB:=ah.mk (hi);(try clear hb);(try clear hk);(try clear hi);obtain ⟨Du,abl⟩:=vB.out;have Dv:=jX Du;have Dw:=jY Du;have Dx:=aa Du 0;have Dy:=aa Du 1;clear Du abl)|(go_at_call 94;(with_reducible refine (gj.calls k a0 t165 _ ?bk A5.out).mono ?_);(case bk=>exact bp.below HG.out aJ);rintro e w9 ⟨rfl,hb⟩;replace HB:=ah.mk (ay aJ hb);replace vB:=ah.mk (eo.below (by repeat ((with_reducible exact vB.out))) hb);(try clear hb)))
   go_ret
   exact ⟨by rfl,aJ⟩
  ·rw [if_neg c4] at H
   have mo:=beq_eq_false_iff_ne.mpr c4
   have Aj:=bne_iff_ne.mpr c4
   obtain rfl:=Option.some.inj H
   go_enter Tryz.func52,Tryz.ntmps52
   go_wp2_with (first|((with_reducible refine bq (N:=8) rfl ?_);(try (refine bV (by rfl) ?_;dsimp only));refine br ?hg (N:=8) ?hd (cs:=#[.string a0,.int .i64 0]) (t:=132) ?hr ?_;(case hd=>rfl);(case hg=>rfl);(case hr=>(go_simp;done));intro pY hg mR bJ hb;have vB:=ah.mk ((⟨bJ,bI⟩:eo w mR pY a0 0));have aab:=ah.mk ((bI:w.heap.size≤pY));have aac:=ah.mk ((bI:w.heap.size≤pY));replace HB:=ah.mk (ay aJ hb);clear hb bJ hg)|((with_reducible refine bH (f:=93) rfl ?_);refine dx (some 11) rfl rfl Tryz.func93 aq rfl #[.pointer (some ⟨pY,0,none⟩)] rfl dI ?_;(with_reducible refine (cF.calls k pY a0 0 t161 true t163 t164 w _ ?bk ?bM A2.out).mono ?_);(case bk=>repeat (exact vB.out));(case bM=>repeat ((with_reducible exact HB.out)));rintro e vK ⟨rfl,hi,hb,hk⟩;refine ⟨_,rfl,?_⟩;replace HB:=ah.mk (hb);replace vB:=ah.mk (hi);(try clear hb);(try clear hk);(try clear hi);obtain ⟨Ka,aeg⟩:=vB.out;have ue:=jX Ka;have uf:=jY Ka;have ug:=aa Ka 0;have uh:=aa Ka 1;clear Ka aeg))
   go_ret
   exact ⟨by rfl,aJ⟩
 ·replace c3:=Bool.eq_false_iff.mpr c3
  subst c3
  rw [if_neg (show ¬ (false=true) by decide)] at H
  obtain rfl:=Option.some.inj H
  go_enter Tryz.func52,Tryz.ntmps52
  go_wp2_with (first|((with_reducible refine bq (N:=8) rfl ?_);(try (refine bV (by rfl) ?_;dsimp only));refine br ?hg (N:=8) ?hd (cs:=#[.string a0,.int .i64 0]) (t:=132) ?hr ?_;(case hd=>rfl);(case hg=>rfl);(case hr=>(go_simp;done));intro pY hg ko bJ hb;have vB:=ah.mk ((⟨bJ,bI⟩:eo w ko pY a0 0));have aab:=ah.mk ((bI:w.heap.size≤pY));have aac:=ah.mk ((bI:w.heap.size≤pY));replace HB:=ah.mk (ay aJ hb);clear hb bJ hg)|((with_reducible refine bH (f:=93) rfl ?_);refine dx (some 11) rfl rfl Tryz.func93 aq rfl #[.pointer (some ⟨pY,0,none⟩)] rfl dI ?_;(with_reducible refine (cF.calls k pY a0 0 t161 false t163 t164 w _ ?bk ?bM A2.out).mono ?_);(case bk=>repeat (exact vB.out));(case bM=>repeat ((with_reducible exact HB.out)));rintro e JB ⟨rfl,hi,hb,hk⟩;refine ⟨_,rfl,?_⟩;replace HB:=ah.mk (hb);replace vB:=ah.mk (hi);(try clear hb);(try clear hk);(try clear hi)))
  go_ret
  exact ⟨by rfl,aJ⟩
def jk.f (k:Nat) (a0:ByteArray):Option (Bool):=(iy.f k a0).bind fun t166=>(if t166=true then ((eW.f a0).bind fun t167=>(some (t167.toList == a0.toList))) else (some false))
theorem jk.mono:∀ a0 k,eY (jk.f k a0) (jk.f (k + 1) a0):=by
 intro a0 k
 unfold jk.f
 repeat' (with_reducible first|exact iy.mono _ _|exact eY.refl _|refine eY.bind ?_ (fun _ =>?_))
theorem jk.calls (k:Nat) (a0:ByteArray) (r:Bool) (w:World) (hG:bp w) (h:jk.f k a0=some r):
 Calls Tryz.prog 145 #[.string a0] w fun e w'=>e= .returned (.bool r)∧Below w.heap.size w w':=by
 have HB:=ah.mk (Below.refl w.heap.size w)
 have HG:=ah.mk hG
 clear hG
 have H:((iy.f k a0).bind fun t166=>(if t166=true then ((eW.f a0).bind fun t167=>(some (t167.toList == a0.toList))) else (some false)))=some r:=h
 clear h
 obtain ⟨t166,A2,H⟩:=bd_ H
 by_cases c3:t166=true
 ·subst c3
  rw [if_pos rfl] at H
  obtain ⟨t167,A4,H⟩:=bd_ H
  obtain rfl:=Option.some.inj H
  go_enter Tryz.func145,Tryz.ntmps145
  go_wp2_with (first|((with_reducible refine bH (f:=52) rfl ?_);refine dx (some 4) rfl rfl Tryz.func52 aq rfl #[.string a0] rfl dI ?_;(with_reducible refine (iy.calls k a0 true _ ?bk A2.out).mono ?_);(case bk=>exact bp.below HG.out aJ);rintro e w5 ⟨rfl,hb⟩;refine ⟨_,rfl,?_⟩;replace HB:=ah.mk (ay aJ hb);(try clear hb))|(go_at_call 139;(with_reducible refine (eW.calls a0 t167 _ A4.out).mono ?_);rintro e w6 ⟨rfl,hb⟩;replace HB:=ah.mk (ay aJ hb);(try clear hb)))
  go_ret
  exact ⟨by rfl,aJ⟩
 ·replace c3:=Bool.eq_false_iff.mpr c3
  subst c3
  rw [if_neg (show ¬ (false=true) by decide)] at H
  obtain rfl:=Option.some.inj H
  go_enter Tryz.func145,Tryz.ntmps145
  go_wp2_with (((with_reducible refine bH (f:=52) rfl ?_);refine dx (some 4) rfl rfl Tryz.func52 aq rfl #[.string a0] rfl dI ?_;(with_reducible refine (iy.calls k a0 false _ ?bk A2.out).mono ?_);(case bk=>exact bp.below HG.out aJ);rintro e w7 ⟨rfl,hb⟩;refine ⟨_,rfl,?_⟩;replace HB:=ah.mk (ay aJ hb);(try clear hb)))
  go_ret
  exact ⟨by rfl,aJ⟩
end Go.Proofs.YtbjjaaodfbjkfaaGreatDoor.mN
