import Derived.Test.YtbjjaaodfbjkfaaGreatDoorQQux5
import Derived.Test.YtbjjaaodfbjkfaaGreatDoorESmall
import Derived.Test.YtbjjaaodfbjkfaaGreatDoorEStr
set_option maxHeartbeats 8000000
set_option maxRecDepth 100000
namespace Go.Proofs.YtbjjaaodfbjkfaaGreatDoor.qb
open Go.RowKit Go.Proofs.YtbjjaaodfbjkfaaGreatDoor.xI Go.Proofs.aj.bQ Go.Proofs.aj.dX Go.Proofs.aj.dJ
attribute [local go_sem] jT jU lF lG iX iY jV jW
set_option linter.unusedVariables false
set_option linter.unusedSimpArgs false
def aW.l0:Nat→Int→ByteArray→Int→Option (Bool×ByteArray×Int)
 | 0,_,_,_ =>none
 |k + 1,x1,u7,qh=>(eW.f k u7 qh).bind fun IC=>(if IC.1=true then ((kV.f IC.2.1 IC.2.2 x1).bind fun ID=>(if ID.1=true then (aW.l0 k x1 ID.2.1 ID.2.2) else (some (true,ID.2.1,ID.2.2)))) else (some (false,IC.2.1,IC.2.2)))
def aW.f (k:Nat) (jH:ByteArray) (iw:Int) (a1:Int):Option (Bool×ByteArray×Int):=aW.l0 k a1 jH iw
theorem aW.ij:∀ k,(∀ y0 y1 y2,gB (aW.l0 k y0 y1 y2) (aW.l0 (k + 1) y0 y1 y2))
 | 0=>fun _ _ _ r h=>by simp [aW.l0] at h
 |k + 1=>by
  have sG:=aW.ij k
  ·intro y0 y1 y2
   unfold aW.l0
   repeat' (with_reducible first|exact sG _ _ _|exact eW.mono _ _ _|exact gB.refl _|refine gB.ite ?_ ?_|refine gB.bind ?_ (fun _ =>?_))
theorem aW.mono:∀ a0 a1 a2 k,gB (aW.f k a0 a1 a2) (aW.f (k + 1) a0 a1 a2):=by
 intro a0 a1 a2 k
 have sG:=aW.ij k
 unfold aW.f
 repeat' (with_reducible exact sG _ _ _)
theorem aW.calls (k:Nat) (g:Nat) (jH:ByteArray) (iw:Int) (a1:Int) (r1:Bool) (r2:ByteArray) (r3:Int) (w0 w:World) (hI:dZ w0 w g jH iw) (hB:Below w0.heap.size w0 w) (h:aW.f k jH iw a1=some (r1,r2,r3)):
 Calls Tryz.prog 137 #[.pointer (some ⟨g,0,none⟩),.int .u8 a1,.func (.func 138) #[.pointer (some ⟨g,0,none⟩)] #[]] w fun e w'=>e= .returned (.bool r1)∧dZ w0 w' g r2 r3∧Below w0.heap.size w0 w'∧dW w w' g none:=by
 have rz:=ah.mk hI
 have HK:=ah.mk (dW.refl w g none)
 have HL:=ah.mk hB.size
 clear hI
 have HW0:=ah.mk hB.size
 have HB:=ah.mk hB
 clear hB
 have H:(aW.l0 k a1 jH iw)=some (r1,r2,r3):=h
 clear h
 have H':=ah.mk H
 clear H
 go_enter Tryz.func137,Tryz.ntmps137
 go_wp2
 go_loopg [] k (fun kq w'=>∃ (kf:ByteArray) (jo:Int),ah (aW.l0 kq a1 kf jo=some (r1,r2,r3))∧ah (kq≤k)∧ah (dZ w0 w' g kf jo)∧ah (dW w w' g none)∧ah (Below w0.heap.size w0 w'))
 case atStart=>exact ⟨(jH),(iw),H',⟨Nat.le_refl _⟩,⟨rU⟩,⟨lq⟩,⟨aD⟩⟩
 case round=>
  clear H'
  obtain ⟨kf,jo,HA,sw,rz,HK,HB⟩:=hrel
  cases gk with
  |zero=>exact absurd HA.out (by simp [aW.l0])
  |succ k1=>
   have H:=HA.out
   clear HA
   simp only [aW.l0] at H
   obtain ⟨⟨t160,t161,t162⟩,A4,H⟩:=bd_ H
   (try dsimp only at H)
   by_cases c5:t160=true
   ·subst c5
    rw [if_pos rfl] at H
    obtain ⟨⟨t163,t164,t165⟩,A6,H⟩:=bd_ H
    (try dsimp only at H)
    by_cases c7:t163=true
    ·subst c7
     rw [if_pos rfl] at H
     have H':=ah.mk H
     clear H
     go_wp2_with (first|(go_at_call 138;(with_reducible refine (eW.calls k1 g kf jo true t161 t162 w0 _ ?aX ?bF A4.out).mono ?_);(case aX=>repeat ((with_reducible exact rz.out)));(case bF=>repeat ((with_reducible exact HB.out)));rintro e w8 ⟨rfl,hi,hb,hk⟩;replace HK:=ah.mk (dW.trans lq hk (.inl rfl));replace HB:=ah.mk (hb);replace rz:=ah.mk (hi);(try clear hb);(try clear hk);(try clear hi))|((with_reducible refine bq (f:=179) rfl ?_);refine cK (some 11) rfl rfl Tryz.func179 aR rfl #[.pointer (some ⟨g,0,none⟩),.int .u8 a1] rfl dc ?_;(with_reducible refine (kV.calls g t161 t162 a1 true t164 t165 w0 _ ?aX ?bF A6.out).mono ?_);(case aX=>repeat ((with_reducible exact rz.out)));(case bF=>repeat ((with_reducible exact HB.out)));rintro e w9 ⟨rfl,hi,hb,hk⟩;refine ⟨_,rfl,?_⟩;replace HK:=ah.mk (dW.trans lq hk (.inl rfl));replace HB:=ah.mk (hb);replace rz:=ah.mk (hi);(try clear hb);(try clear hk);(try clear hi)))
     go_roundg k1
     case measure=>have:=sw.out;omega
     case rel=>exact ⟨(t164),(t165),H',⟨lA⟩,⟨rU⟩,⟨lq⟩,⟨aD⟩⟩
    ·replace c7:=Bool.eq_false_iff.mpr c7
     subst c7
     rw [if_neg (show ¬ (false=true) by decide)] at H
     simp only [Option.some.injEq,Prod.mk.injEq] at H
     obtain ⟨rfl,rfl,rfl⟩:=H
     go_wp2_with (first|(go_at_call 138;(with_reducible refine (eW.calls k1 g kf jo true t161 t162 w0 _ ?aX ?bF A4.out).mono ?_);(case aX=>repeat ((with_reducible exact rz.out)));(case bF=>repeat ((with_reducible exact HB.out)));rintro e sI ⟨rfl,hi,hb,hk⟩;replace HK:=ah.mk (dW.trans lq hk (.inl rfl));replace HB:=ah.mk (hb);replace rz:=ah.mk (hi);(try clear hb);(try clear hk);(try clear hi))|((with_reducible refine bq (f:=179) rfl ?_);refine cK (some 11) rfl rfl Tryz.func179 aR rfl #[.pointer (some ⟨g,0,none⟩),.int .u8 a1] rfl dc ?_;(with_reducible refine (kV.calls g t161 t162 a1 false t164 t165 w0 _ ?aX ?bF A6.out).mono ?_);(case aX=>repeat ((with_reducible exact rz.out)));(case bF=>repeat ((with_reducible exact HB.out)));rintro e Bp ⟨rfl,hi,hb,hk⟩;refine ⟨_,rfl,?_⟩;replace HK:=ah.mk (dW.trans lq hk (.inl rfl));replace HB:=ah.mk (hb);replace rz:=ah.mk (hi);(try clear hb);(try clear hk);(try clear hi)))
     go_ret
     exact ⟨by rfl,rU,aD,lq⟩
   ·replace c5:=Bool.eq_false_iff.mpr c5
    subst c5
    rw [if_neg (show ¬ (false=true) by decide)] at H
    simp only [Option.some.injEq,Prod.mk.injEq] at H
    obtain ⟨rfl,rfl,rfl⟩:=H
    go_wp2_with ((go_at_call 138;(with_reducible refine (eW.calls k1 g kf jo false t161 t162 w0 _ ?aX ?bF A4.out).mono ?_);(case aX=>repeat ((with_reducible exact rz.out)));(case bF=>repeat ((with_reducible exact HB.out)));rintro e w12 ⟨rfl,hi,hb,hk⟩;replace HK:=ah.mk (dW.trans lq hk (.inl rfl));replace HB:=ah.mk (hb);replace rz:=ah.mk (hi);(try clear hb);(try clear hk);(try clear hi)))
    go_ret
    exact ⟨by rfl,rU,aD,lq⟩
def cE.f (k:Nat) (jH:ByteArray) (iw:Int):Option (ByteArray×Bool×ByteArray×Int):=(aW.f k jH iw 46).bind fun pT=>(if 0≤iw then (if iw≤pT.2.2 then (if pT.2.2≤(pT.2.1.size:Int) then ((gJ.f (pT.2.1.extract (iw:Int).toNat (pT.2.2:Int).toNat)).bind fun t169=>(some (t169,pT.1,pT.2.1,pT.2.2))) else (none)) else (none)) else (none))
theorem cE.mono:∀ a0 a1 k,gB (cE.f k a0 a1) (cE.f (k + 1) a0 a1):=by
 intro a0 a1 k
 unfold cE.f
 repeat' (with_reducible first|exact aW.mono _ _ _ _|exact gB.refl _|refine gB.bind ?_ (fun _ =>?_))
def cE.T3:Bool×List (List Nat×List Nat):=(true,[([],[]),([0],[0]),([1],[1]),([2],[2]),([],[]),([],[]),([5],[5]),([6],[6]),([7],[7]),([3,4,8],[3,4,8]),([9],[9]),([],[]),([10,10,0,1,2,3,4,5,6,7,8,9,10],[10]),([11,12,0,1,2,3,4,5,6,7,8,9,10,11,12],[11])])
def cE.B3:List Nat:=[0,1,3,7,0,0,32,96,224,511,1023,0,2047,8191]
theorem cE.aCl:pO .any (opsOf Tryz.f93 3)=cE.T3:=by kernel_rfl
theorem cE.ajh:ql cE.T3.2 cE.B3=true:=by kernel_rfl
theorem cE.calls (k:Nat) (g:Nat) (jH:ByteArray) (iw:Int) (r1:ByteArray) (r2:Bool) (r3:ByteArray) (r4:Int) (w0 w:World) (hI:dZ w0 w g jH iw) (hB:Below w0.heap.size w0 w) (h:cE.f k jH iw=some (r1,r2,r3,r4)):
 Calls Tryz.prog 93 #[.pointer (some ⟨g,0,none⟩)] w fun e w'=>e= .returned (.tuple #[.string r1,.bool r2])∧dZ w0 w' g r3 r4∧Below w0.heap.size w0 w'∧dW w w' g none:=by
 have rz:=ah.mk hI
 have HK:=ah.mk (dW.refl w g none)
 have HL:=ah.mk hB.size
 clear hI
 have HW0:=ah.mk hB.size
 have HB:=ah.mk hB
 clear hB
 have H:((aW.f k jH iw 46).bind fun pT=>(if 0≤iw then (if iw≤pT.2.2 then (if pT.2.2≤(pT.2.1.size:Int) then ((gJ.f (pT.2.1.extract (iw:Int).toNat (pT.2.2:Int).toNat)).bind fun t169=>(some (t169,pT.1,pT.2.1,pT.2.2))) else (none)) else (none)) else (none)))=some (r1,r2,r3,r4):=h
 clear h
 obtain ⟨⟨t166,t167,t168⟩,A2,H⟩:=bd_ H
 (try dsimp only at H)
 obtain ⟨c3,H⟩:=ld H
 have pF:=eq_true c3
 have De:=decide_eq_true c3
 clear c3
 obtain ⟨c4,H⟩:=ld H
 have oU:=eq_true c4
 have Bl:=decide_eq_true c4
 clear c4
 obtain ⟨c5,H⟩:=ld H
 have uA:=eq_true c5
 have ad3:=decide_eq_true c5
 clear c5
 obtain ⟨t169,A6,H⟩:=bd_ H
 simp only [Option.some.injEq,Prod.mk.injEq] at H
 obtain ⟨rfl,rfl,rfl,rfl⟩:=H
 obtain ⟨Bq,adZ⟩:=rz.out
 have FW:=jY Bq
 have FX:=jZ Bq
 have FY:=aa Bq 0
 have FZ:=aa Bq 1
 clear Bq adZ
 go_enter Tryz.func93,Tryz.ntmps93
 try go_wp2_with (((with_reducible refine bq (f:=137) rfl ?_);refine cK (some 13) rfl rfl Tryz.func137 aR rfl #[.pointer (some ⟨g,0,none⟩),.int .u8 46,.func (.func 138) #[.pointer (some ⟨g,0,none⟩)] #[]] rfl dc ?_;(with_reducible refine (aW.calls k g jH iw 46 t166 t167 t168 w0 _ ?aX ?bF A2.out).mono ?_);(case aX=>repeat ((with_reducible exact rz.out)));(case bF=>repeat ((with_reducible exact HB.out)));rintro e w8 ⟨rfl,hi,hb,hk⟩;refine ⟨_,rfl,?_⟩;replace HK:=ah.mk (dW.trans lq hk (.inl rfl));replace HB:=ah.mk (hb);replace rz:=ah.mk (hi);(try clear hb);(try clear hk);(try clear hi)))
 have jF:=ah.mk (dZ.drew rz.out)
 have jG:=ah.mk (O4 HK.out)
 have mA:=ah.mk (jI HB.out)
 clear rz
 clear HK
 clear HB
 have rz:=jF
 have HK:=jG
 have HB:=mA
 clear jF jG mA
 refine uN (n:=14) (S:=fun w'=>w'.cell? ⟨g,0,none⟩=some (.string t167)∧w'.cell? ⟨g,1,none⟩=some (.int .i64 t168)) (ds:=[]) #[false,false,false,false,false,false,false,false,false,false,false,false,false,false] aR (by rfl) (by rfl) ⟨jY rz.out.1,jZ rz.out.1⟩ (fun hHeld=>?_);refine pz cE.aCl cE.ajh (fun iG Cs=>?_)
 generalize w8.drew=w9 at rz HK HB hHeld ⊢
 refine dS (i:=0) (N:=some 14) #[true,false,false,false,false,false,false,false,false,false,false,false,false,false] rfl rfl (cY iG.out aR) (fun _ _ _ h=>h) (Or.inl ⟨by rfl,ez⟩) oW ?_
 refine dS (i:=1) (N:=some 15) #[true,true,false,false,false,false,false,false,false,false,false,false,false,false] rfl rfl (cY iG.out aR) (fun _ _ _ h=>h) (Or.inl ⟨by rfl,ez⟩) oW ?_
 refine dS (i:=2) (N:=some 16) #[true,true,true,false,false,false,false,false,false,false,false,false,false,false] rfl rfl (cY iG.out aR) (fun _ _ _ h=>h) (Or.inl ⟨by rfl,ez⟩) oW ?_
 refine dS (i:=4) (N:=some 18) #[true,true,true,false,true,false,false,false,false,false,false,false,false,false] rfl rfl (cY iG.out aR) (fun _ _ _ h=>h) (Or.inl ⟨by rfl,ez⟩) oW ?_
 refine dS (i:=5) (N:=some 19) #[true,true,true,false,true,true,false,false,false,false,false,false,false,false] rfl rfl (cY iG.out aR) (fun _ _ _ h=>h) (Or.inl ⟨by rfl,ez⟩) oW ?_
 refine dS (i:=6) (N:=some 20) #[true,true,true,false,true,true,true,false,false,false,false,false,false,false] rfl rfl (cY iG.out aR) (fun _ _ _ h=>h) (Or.inl ⟨by rfl,ez⟩) oW ?_
 refine dS (i:=7) (N:=some 21) #[true,true,true,false,true,true,true,true,false,false,false,false,false,false] rfl rfl (cY iG.out aR) (fun _ _ _ h=>h) (Or.inl ⟨by rfl,ez⟩) oW ?_
 refine dS (i:=11) (N:=some 25) #[true,true,true,false,true,true,true,true,false,false,false,true,false,false] rfl rfl (cY iG.out aR) (fun _ _ _ h=>h) (Or.inl ⟨by rfl,ez⟩) oW ?_
 refine nL (i:=3) (N:=some 17) #[true,true,true,true,true,true,true,true,false,false,false,true,false,false] rfl rfl (jS iG.out Cs.out aR) (fun _ _ _ h=>h) (Or.inl ⟨by rfl,(by rintro w' ⟨s0,s1⟩;go_simp;with_reducible rfl)⟩) hHeld oW ?_
 refine nL (i:=8) (N:=some 22) #[true,true,true,true,true,true,true,true,true,false,false,true,false,false] rfl rfl (jS iG.out Cs.out aR) (fun _ _ _ h=>h) (Or.inl ⟨by rfl,(by rintro w' ⟨s0,s1⟩;go_simp;with_reducible rfl)⟩) hHeld oW ?_
 refine dS (i:=9) (N:=some 23) #[true,true,true,true,true,true,true,true,true,true,false,true,false,false] rfl rfl (cY iG.out aR) (fun _ _ _ h=>h) (Or.inl ⟨by rfl,ez⟩) oW ?_
 refine rW (i:=10) (N:=some 24) #[true,true,true,true,true,true,true,true,true,true,true,true,false,false] rfl rfl (ko iG.out aR) bE (fun K hK=>?_)
 refine pN Tryz.func139 aR rfl #[.string (t167.extract (iw:Int).toNat (t168:Int).toNat)] (by rfl) rfl rfl dc ?_
 with_reducible refine (gJ.calls (t167.extract (iw:Int).toNat (t168:Int).toNat) t169 _ A6.out).mono ?_
 rintro e sI ⟨rfl,hb⟩
 have aCm:=(hb.cell (World.block_lt_of_cell? _ _ (hHeld.1))).trans (hHeld.1)
 have aCn:=(hb.cell (World.block_lt_of_cell? _ _ (hHeld.2))).trans (hHeld.2)
 refine ⟨_,rfl,?_⟩
 have jF:=ah.mk (dZ.below rU hb)
 have jG:=ah.mk (dW.trans lq (dW.of_below hb g none) (.inl rfl))
 have mA:=ah.mk (aA aD hb)
 clear rz
 clear HK
 clear HB
 have rz:=jF
 have HK:=jG
 have HB:=mA
 clear jF jG mA
 refine hK.out _ _ ⟨aCm,aCn⟩ (fun hHeld=>?_)
 clear hK K
 refine kI (a':=?_) ?_ ?_
 rotate_left
 ·show Act.put _ (some 24) _=_
  simp only [Act.put,List.setIfInBounds_toArray,List.set_cons_zero,List.set_cons_succ,fU,gj]
  rfl
 refine dS (i:=12) (N:=some 2) #[true,true,true,true,true,true,true,true,true,true,true,true,true,false] rfl rfl (cY iG.out aR) (fun _ _ _ h=>h) (Or.inl ⟨by rfl,ez⟩) oW ?_
 refine dS (i:=13) (N:=some 3) #[true,true,true,true,true,true,true,true,true,true,true,true,true,true] rfl rfl (cY iG.out aR) (fun _ _ _ h=>h) (Or.inl ⟨by rfl,ez⟩) oW ?_
 refine zO (tE iG.out aR) ?_
 try go_wp2
 go_ret2
 exact ⟨by rfl,rU,aD,lq⟩
def oM.f (a0:ByteArray):Option (Bool):=some (decide ((a0.size:Int) > 63))
theorem oM.calls (a0:ByteArray) (r:Bool) (w:World) (h:oM.f a0=some r):
 Calls Tryz.prog 142 #[.string a0] w fun e w'=>e= .returned (.bool r)∧gH w w':=by
 have H:(some (decide ((a0.size:Int) > 63)))=some r:=h
 clear h
 obtain rfl:=Option.some.inj H
 go_enter Tryz.func142,Tryz.ntmps142
 go_wp2
 go_ret
 exact ⟨by rfl,mE⟩
def aJ.l0:Nat→List ByteArray→Int→Int→Option (Int)
 | 0,_,_,_ =>none
 |k + 1,x0,x7,x8=>if x8 < x7 then (if 0≤x8 then (if x8 < (x0.length:Int) then ((oM.f (qU ByteArray.empty x0 x8)).bind fun t171=>(if t171=true then (some x8) else (aJ.l0 k x0 x7 (wrap64 (x8 + 1))))) else (none)) else (none)) else (some (-1))
def aJ.f (k:Nat) (l0:List ByteArray):Option (Int):=aJ.l0 k l0 (l0.length:Int) 0
theorem aJ.ij:∀ k,(∀ y0 y1 y2,gB (aJ.l0 k y0 y1 y2) (aJ.l0 (k + 1) y0 y1 y2))
 | 0=>fun _ _ _ r h=>by simp [aJ.l0] at h
 |k + 1=>by
  have sG:=aJ.ij k
  ·intro y0 y1 y2
   unfold aJ.l0
   repeat' (with_reducible first|exact sG _ _ _|exact gB.refl _|refine gB.ite ?_ ?_|refine gB.bind ?_ (fun _ =>?_))
theorem aJ.mono:∀ a0 k,gB (aJ.f k a0) (aJ.f (k + 1) a0):=by
 intro a0 k
 have sG:=aJ.ij k
 unfold aJ.f
 repeat' (with_reducible exact sG _ _ _)
theorem aJ.calls (k:Nat) (A0:Option Addr) (c0:Nat) (l0:List ByteArray) (r:Int) (w:World) (lN:Kd.C Kd.string w A0 l0.length l0) (hc0:l0.length≤c0) (h:aJ.f k l0=some r):
 Calls Tryz.prog 184 #[.slice A0 l0.length c0,.func (.func 142) #[] #[]] w fun e w'=>e= .returned (.int .i64 r)∧gH w w':=by
 have nr:=ah.mk lN
 have sU:=ah.mk hc0
 clear lN hc0
 have H:(aJ.l0 k l0 (l0.length:Int) 0)=some r:=h
 clear h
 have H':=ah.mk H
 clear H
 go_enter Tryz.func184,Tryz.ntmps184
 go_wp2
 go_loopg [8] k (fun kq v8 w'=>∃ (eP:Int),v8= .int .i64 eP∧ah (aJ.l0 kq l0 (l0.length:Int) eP=some r)∧ah (kq≤k)∧gH w w')
 case atStart=>exact ⟨(0),(by rfl),H',⟨Nat.le_refl _⟩,mE⟩
 case round=>
  clear H'
  obtain ⟨eP,rfl,HA,sw,⟨m1,rfl⟩⟩:=hrel
  cases gk with
  |zero=>exact absurd HA.out (by simp [aJ.l0])
  |succ k1=>
   have H:=HA.out
   clear HA
   simp only [aJ.l0] at H
   by_cases c3:eP < (l0.length:Int)
   ·rw [if_pos c3] at H
    have pF:=decide_eq_true c3
    clear c3
    obtain ⟨c4,H⟩:=ld H
    have oU:=decide_eq_true c4
    clear c4
    obtain ⟨c5,H⟩:=ld H
    have uA:=decide_eq_true c5
    clear c5
    obtain ⟨t171,A6,H⟩:=bd_ H
    by_cases c7:t171=true
    ·subst c7
     rw [if_pos rfl] at H
     obtain rfl:=Option.some.inj H
     have JW: 0≤(eP:Int):=of_decide_eq_true cP
     have JX:eP < (l0.length:Int):=of_decide_eq_true cP
     obtain ⟨aji,ad4,ZO⟩:=Kd.mM nr.out eP JW JX
     cases ad4
     replace JW:=eq_true JW
     replace JX:=eq_true JX
     go_wp2_with ((go_at_call 142;(with_reducible refine (oM.calls (qU ByteArray.empty l0 eP) true _ A6.out).mono ?_);rintro e w' ⟨rfl,⟨nd,rfl⟩⟩))
     go_ret
     exact ⟨by rfl,jy⟩
    ·replace c7:=Bool.eq_false_iff.mpr c7
     subst c7
     rw [if_neg (show ¬ (false=true) by decide)] at H
     have H':=ah.mk H
     clear H
     have JW: 0≤(eP:Int):=of_decide_eq_true cP
     have JX:eP < (l0.length:Int):=of_decide_eq_true cP
     obtain ⟨aji,ad4,ZO⟩:=Kd.mM nr.out eP JW JX
     cases ad4
     replace JW:=eq_true JW
     replace JX:=eq_true JX
     go_wp2_with ((go_at_call 142;(with_reducible refine (oM.calls (qU ByteArray.empty l0 eP) false _ A6.out).mono ?_);rintro e w' ⟨rfl,⟨nd,rfl⟩⟩))
     go_roundg k1
     case measure=>have:=sw.out;omega
     case rel=>exact ⟨(wrap64 (eP + 1)),(by rfl),H',⟨lA⟩,jy⟩
   ·rw [if_neg c3] at H
    have pF:=decide_eq_false c3
    clear c3
    obtain rfl:=Option.some.inj H
    go_wp2
    go_ret
    exact ⟨by rfl,jy⟩
def bO.f (k:Nat) (l0:List ByteArray):Option (Bool):=(aJ.f k l0).bind fun t172=>(some (decide (t172≥0)))
theorem bO.mono:∀ a0 k,gB (bO.f k a0) (bO.f (k + 1) a0):=by
 intro a0 k
 unfold bO.f
 repeat' (with_reducible first|exact aJ.mono _ _|exact gB.refl _|refine gB.bind ?_ (fun _ =>?_))
theorem bO.calls (k:Nat) (A0:Option Addr) (c0:Nat) (l0:List ByteArray) (r:Bool) (w:World) (lN:Kd.C Kd.string w A0 l0.length l0) (hc0:l0.length≤c0) (h:bO.f k l0=some r):
 Calls Tryz.prog 140 #[.slice A0 l0.length c0,.func (.func 142) #[] #[]] w fun e w'=>e= .returned (.bool r)∧gH w w':=by
 have nr:=ah.mk lN
 have sU:=ah.mk hc0
 clear lN hc0
 have H:((aJ.f k l0).bind fun t172=>(some (decide (t172≥0))))=some r:=h
 clear h
 obtain ⟨t172,A3,H⟩:=bd_ H
 obtain rfl:=Option.some.inj H
 go_enter Tryz.func140,Tryz.ntmps140
 go_wp2_with (((with_reducible refine bq (f:=184) rfl ?_);refine cK (some 7) rfl rfl Tryz.func184 aR rfl #[.slice A0 l0.length c0,.func (.func 142) #[] #[]] rfl dc ?_;(with_reducible refine (aJ.calls k _ _ l0 t172 _ ?aX ?bF A3.out).mono ?_);(case aX=>repeat (exact nr.out));(case bF=>exact sU.out);rintro e w' ⟨rfl,⟨nd,rfl⟩⟩;refine ⟨_,rfl,?_⟩))
 go_ret
 exact ⟨by rfl,jy⟩
def iI.f (k:Nat) (a0:ByteArray):Option (Bool):=if (a0.size:Int)≤255 then ((strings_Split.f a0 (⟨#[46]⟩:ByteArray)).bind fun t173=>((bO.f k t173).bind fun t176=>(some (!t176)))) else (some false)
theorem iI.mono:∀ a0 k,gB (iI.f k a0) (iI.f (k + 1) a0):=by
 intro a0 k
 unfold iI.f
 repeat' (with_reducible first|exact bO.mono _ _|exact gB.refl _|refine gB.ite ?_ ?_|refine gB.bind ?_ (fun _ =>?_))
theorem iI.calls (k:Nat) (a0:ByteArray) (r:Bool) (w:World) (hG:bp w) (h:iI.f k a0=some r):
 Calls Tryz.prog 94 #[.string a0] w fun e w'=>e= .returned (.bool r)∧Below w.heap.size w w':=by
 have HB:=ah.mk (Below.refl w.heap.size w)
 have HG:=ah.mk hG
 clear hG
 have H:(if (a0.size:Int)≤255 then ((strings_Split.f a0 (⟨#[46]⟩:ByteArray)).bind fun t173=>((bO.f k t173).bind fun t176=>(some (!t176)))) else (some false))=some r:=h
 clear h
 by_cases c2:(a0.size:Int)≤255
 ·rw [if_pos c2] at H
  have yu:=decide_eq_true c2
  have Pk:decide (a0.size≤255)=true:=decide_eq_true ay
  clear c2
  obtain ⟨t173,A3,H⟩:=bd_ H
  obtain ⟨t176,A4,H⟩:=bd_ H
  obtain rfl:=Option.some.inj H
  go_enter Tryz.func94,Tryz.ntmps94
  go_wp2_with (first|(go_at_call 141;(with_reducible refine (strings_Split.calls a0 (⟨#[46]⟩:ByteArray) t173 _ ?aX A3.out).mono ?_);(case aX=>exact bp.below HG.out aD);rintro e w5 ⟨aJz,rfl,ho0,hb⟩;have Ss:=ah.mk (Kd.cN ho0 (bL aD));replace HB:=ah.mk (aA aD hb);(try clear hb);(try clear ho0);obtain ⟨Ao6,co6,eo6⟩:=Kd.cM Ss.out;subst eo6)|(go_at_call 140;(with_reducible refine (bO.calls k _ _ t173 t176 _ ?aX ?bF A4.out).mono ?_);(case aX=>repeat (exact (Kd.aZ Ss.out).2.2));(case bF=>exact (Kd.aZ Ss.out).2.1);rintro e w' ⟨rfl,⟨nd,rfl⟩⟩))
  go_ret
  exact ⟨by rfl,dG⟩
 ·rw [if_neg c2] at H
  have yu:=decide_eq_false c2
  have Pk:decide (a0.size≤255)=false:=decide_eq_false ay
  clear c2
  obtain rfl:=Option.some.inj H
  go_enter Tryz.func94,Tryz.ntmps94
  go_wp2
  go_ret
  exact ⟨by rfl,aD⟩
def jg.f (k:Nat) (a0:ByteArray):Option (Bool):=(cE.f k a0 0).bind fun IE=>(if IE.2.1=true then (if IE.2.2.2=(a0.size:Int) then ((iI.f k a0).bind fun t182=>(some t182)) else (some false)) else (some false))
theorem jg.mono:∀ a0 k,gB (jg.f k a0) (jg.f (k + 1) a0):=by
 intro a0 k
 unfold jg.f
 repeat' (with_reducible first|exact cE.mono _ _ _|exact iI.mono _ _|exact gB.refl _|refine gB.ite ?_ ?_|refine gB.bind ?_ (fun _ =>?_))
theorem jg.calls (k:Nat) (a0:ByteArray) (r:Bool) (w:World) (hG:bp w) (h:jg.f k a0=some r):
 Calls Tryz.prog 52 #[.string a0] w fun e w'=>e= .returned (.bool r)∧Below w.heap.size w w':=by
 have aGF:=Tryz.underlying132
 have HB:=ah.mk (Below.refl w.heap.size w)
 have HG:=ah.mk hG
 clear hG
 have H:((cE.f k a0 0).bind fun IE=>(if IE.2.1=true then (if IE.2.2.2=(a0.size:Int) then ((iI.f k a0).bind fun t182=>(some t182)) else (some false)) else (some false)))=some r:=h
 clear h
 obtain ⟨⟨t178,t179,t180,t181⟩,A2,H⟩:=bd_ H
 (try dsimp only at H)
 by_cases c3:t179=true
 ·subst c3
  rw [if_pos rfl] at H
  by_cases c4:t181=(a0.size:Int)
  ·rw [if_pos c4] at H
   have oU:=beq_iff_eq.mpr c4
   have Bl:=bne_eq_false_iff_eq.mpr c4
   clear c4
   obtain ⟨t182,A5,H⟩:=bd_ H
   obtain rfl:=Option.some.inj H
   go_enter Tryz.func52,Tryz.ntmps52
   go_wp2_with (first|((with_reducible refine bI (N:=8) rfl ?_);(try (refine bT (by rfl) ?_;dsimp only));refine bR ?hg (N:=8) ?hd (cs:=#[.string a0,.int .i64 0]) (t:=132) ?hr ?_;(case hd=>rfl);(case hg=>rfl);(case hr=>(go_simp;done));intro pU hg w6 b9 hb;have ur:=ah.mk ((⟨b9,bZ⟩:dZ w w6 pU a0 0));have acd:=ah.mk ((bZ:w.heap.size≤pU));have ace:=ah.mk ((bZ:w.heap.size≤pU));replace HB:=ah.mk (aA aD hb);clear hb b9 hg)|((with_reducible refine bq (f:=93) rfl ?_);refine cK (some 11) rfl rfl Tryz.func93 aR rfl #[.pointer (some ⟨pU,0,none⟩)] rfl dc ?_;(with_reducible refine (cE.calls k pU a0 0 t178 true t180 t181 w _ ?aX ?bF A2.out).mono ?_);(case aX=>repeat (exact ur.out));(case bF=>repeat ((with_reducible exact HB.out)));rintro e w7 ⟨rfl,hi,hb,hk⟩;refine ⟨_,rfl,?_⟩;replace HB:=ah.mk (hb);replace ur:=ah.mk (hi);(try clear hb);(try clear hk);(try clear hi);obtain ⟨Br,ad0⟩:=ur.out;have Dh:=jY Br;have Di:=jZ Br;have Dj:=aa Br 0;have Dk:=aa Br 1;clear Br ad0)|(go_at_call 94;(with_reducible refine (iI.calls k a0 t182 _ ?aX A5.out).mono ?_);(case aX=>exact bp.below HG.out aD);rintro e w9 ⟨rfl,hb⟩;replace HB:=ah.mk (aA aD hb);replace ur:=ah.mk (dZ.below (by repeat ((with_reducible exact ur.out))) hb);(try clear hb)))
   go_ret
   exact ⟨by rfl,aD⟩
  ·rw [if_neg c4] at H
   have oU:=beq_eq_false_iff_ne.mpr c4
   have Bl:=bne_iff_ne.mpr c4
   obtain rfl:=Option.some.inj H
   go_enter Tryz.func52,Tryz.ntmps52
   go_wp2_with (first|((with_reducible refine bI (N:=8) rfl ?_);(try (refine bT (by rfl) ?_;dsimp only));refine bR ?hg (N:=8) ?hd (cs:=#[.string a0,.int .i64 0]) (t:=132) ?hr ?_;(case hd=>rfl);(case hg=>rfl);(case hr=>(go_simp;done));intro pU hg sI b9 hb;have ur:=ah.mk ((⟨b9,bZ⟩:dZ w sI pU a0 0));have acd:=ah.mk ((bZ:w.heap.size≤pU));have ace:=ah.mk ((bZ:w.heap.size≤pU));replace HB:=ah.mk (aA aD hb);clear hb b9 hg)|((with_reducible refine bq (f:=93) rfl ?_);refine cK (some 11) rfl rfl Tryz.func93 aR rfl #[.pointer (some ⟨pU,0,none⟩)] rfl dc ?_;(with_reducible refine (cE.calls k pU a0 0 t178 true t180 t181 w _ ?aX ?bF A2.out).mono ?_);(case aX=>repeat (exact ur.out));(case bF=>repeat ((with_reducible exact HB.out)));rintro e Bp ⟨rfl,hi,hb,hk⟩;refine ⟨_,rfl,?_⟩;replace HB:=ah.mk (hb);replace ur:=ah.mk (hi);(try clear hb);(try clear hk);(try clear hi);obtain ⟨IG,ajj⟩:=ur.out;have xW:=jY IG;have xX:=jZ IG;have xY:=aa IG 0;have xZ:=aa IG 1;clear IG ajj))
   go_ret
   exact ⟨by rfl,aD⟩
 ·replace c3:=Bool.eq_false_iff.mpr c3
  subst c3
  rw [if_neg (show ¬ (false=true) by decide)] at H
  obtain rfl:=Option.some.inj H
  go_enter Tryz.func52,Tryz.ntmps52
  go_wp2_with (first|((with_reducible refine bI (N:=8) rfl ?_);(try (refine bT (by rfl) ?_;dsimp only));refine bR ?hg (N:=8) ?hd (cs:=#[.string a0,.int .i64 0]) (t:=132) ?hr ?_;(case hd=>rfl);(case hg=>rfl);(case hr=>(go_simp;done));intro pU hg rX b9 hb;have ur:=ah.mk ((⟨b9,bZ⟩:dZ w rX pU a0 0));have acd:=ah.mk ((bZ:w.heap.size≤pU));have ace:=ah.mk ((bZ:w.heap.size≤pU));replace HB:=ah.mk (aA aD hb);clear hb b9 hg)|((with_reducible refine bq (f:=93) rfl ?_);refine cK (some 11) rfl rfl Tryz.func93 aR rfl #[.pointer (some ⟨pU,0,none⟩)] rfl dc ?_;(with_reducible refine (cE.calls k pU a0 0 t178 false t180 t181 w _ ?aX ?bF A2.out).mono ?_);(case aX=>repeat (exact ur.out));(case bF=>repeat ((with_reducible exact HB.out)));rintro e JY ⟨rfl,hi,hb,hk⟩;refine ⟨_,rfl,?_⟩;replace HB:=ah.mk (hb);replace ur:=ah.mk (hi);(try clear hb);(try clear hk);(try clear hi)))
  go_ret
  exact ⟨by rfl,aD⟩
def jO.f (k:Nat) (a0:ByteArray):Option (Bool):=(jg.f k a0).bind fun t183=>(if t183=true then ((gJ.f a0).bind fun t184=>(some (t184.toList == a0.toList))) else (some false))
theorem jO.mono:∀ a0 k,gB (jO.f k a0) (jO.f (k + 1) a0):=by
 intro a0 k
 unfold jO.f
 repeat' (with_reducible first|exact jg.mono _ _|exact gB.refl _|refine gB.bind ?_ (fun _ =>?_))
theorem jO.calls (k:Nat) (a0:ByteArray) (r:Bool) (w:World) (hG:bp w) (h:jO.f k a0=some r):
 Calls Tryz.prog 145 #[.string a0] w fun e w'=>e= .returned (.bool r)∧Below w.heap.size w w':=by
 have HB:=ah.mk (Below.refl w.heap.size w)
 have HG:=ah.mk hG
 clear hG
 have H:((jg.f k a0).bind fun t183=>(if t183=true then ((gJ.f a0).bind fun t184=>(some (t184.toList == a0.toList))) else (some false)))=some r:=h
 clear h
 obtain ⟨t183,A2,H⟩:=bd_ H
 by_cases c3:t183=true
 ·subst c3
  rw [if_pos rfl] at H
  obtain ⟨t184,A4,H⟩:=bd_ H
  obtain rfl:=Option.some.inj H
  go_enter Tryz.func145,Tryz.ntmps145
  go_wp2_with (first|((with_reducible refine bq (f:=52) rfl ?_);refine cK (some 4) rfl rfl Tryz.func52 aR rfl #[.string a0] rfl dc ?_;(with_reducible refine (jg.calls k a0 true _ ?aX A2.out).mono ?_);(case aX=>exact bp.below HG.out aD);rintro e w5 ⟨rfl,hb⟩;refine ⟨_,rfl,?_⟩;replace HB:=ah.mk (aA aD hb);(try clear hb))|(go_at_call 139;(with_reducible refine (gJ.calls a0 t184 _ A4.out).mono ?_);rintro e w6 ⟨rfl,hb⟩;replace HB:=ah.mk (aA aD hb);(try clear hb)))
  go_ret
  exact ⟨by rfl,aD⟩
 ·replace c3:=Bool.eq_false_iff.mpr c3
  subst c3
  rw [if_neg (show ¬ (false=true) by decide)] at H
  obtain rfl:=Option.some.inj H
  go_enter Tryz.func145,Tryz.ntmps145
  go_wp2_with (((with_reducible refine bq (f:=52) rfl ?_);refine cK (some 4) rfl rfl Tryz.func52 aR rfl #[.string a0] rfl dc ?_;(with_reducible refine (jg.calls k a0 false _ ?aX A2.out).mono ?_);(case aX=>exact bp.below HG.out aD);rintro e w7 ⟨rfl,hb⟩;refine ⟨_,rfl,?_⟩;replace HB:=ah.mk (aA aD hb);(try clear hb)))
  go_ret
  exact ⟨by rfl,aD⟩
end Go.Proofs.YtbjjaaodfbjkfaaGreatDoor.qb
