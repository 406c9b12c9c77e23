import Derived.Test.YtbjjaaodfbjkfaaGreatDoorQQux2
import Derived.Test.YtbjjaaodfbjkfaaGreatDoorQQux5
namespace Go.Proofs.YtbjjaaodfbjkfaaGreatDoor.mU
open Go.RowKit Go.Proofs.YtbjjaaodfbjkfaaGreatDoor.yN Go.Proofs.ak.bR Go.Proofs.ak.dz Go.Proofs.ak.cZ
attribute [local go_sem] iR iT jW jX gW gX jh ji
set_option linter.unusedVariables false
set_option linter.unusedSimpArgs false
attribute [local go_sem high] abD
def dA.f (bg:Int) (bP:Bool) (cH:List ByteArray) (bD:ByteArray) (bI:ByteArray) (bU:Bool) (bL:List (jM)) (cN:List Int) (bW:Int) (gz:Int) (gF:Bool) (kU:List ByteArray) (iX:ByteArray) (iN:ByteArray) (iO:Bool) (iK:List (jM)) (lK:List Int) (jN:Int) (a2:Int):Option (Bool):=(dc.f bg bP cH bD bI bU bL cN bW).bind fun t250=>(if t250=true then (some false) else (if bg≥a2 then (if bP=true then (if (bL.length:Int)=1 then (if 0 < (bL.length:Int) then (some (((((bM bL 0).f0.f0).toList) == iX.toList && ((((bM bL 0).f0.f1).toList) == iN.toList && (((bM bL 0).f0.f2) == iO))) && (((bM bL 0).f1) == 0 && (((bM bL 0).f2) == 0)))) else (none)) else (some false)) else (some false)) else (some false)))
def dA.T1:Bool×List (List Nat×List Nat):=(true,[([],[]),([0],[0]),([1],[1]),([2,1],[2]),([3],[3]),([4,3],[3,4]),([3],[3]),([5,6,3],[3,5,6]),([3,7],[3,7]),([8,3],[8]),([9],[9]),([10,9],[9,10]),([11,9],[9,11]),([9,12],[9,12]),([13,9],[13]),([14],[14]),([15,14],[14,15]),([16,14],[14,16]),([17,14],[14,17]),([14,18],[14,18]),([19,14],[19]),([20],[20]),([21,20],[20,21]),([22,20],[20,22]),([23,20],[20,23]),([20],[20]),([25,20],[20,25]),([26,20],[20,26]),([20],[20]),([28,20],[20,28]),([29,20],[20,29]),([30,20],[20,30]),([31,20],[20,31]),([27,32,20],[20,27,32]),([24,33,20],[20,24,33]),([20,34],[20,34]),([35,20,0,1,2,3,4,5,6,7,8,9,10,11,12,13,14,15,16,17,18,19,20,21,22,23,24,25,26,27,28,29,30,31,32,33,34,35],[35])])
def dA.B1:List Nat:=[0,1,3,7,15,31,15,127,255,511,1023,2047,4095,8191,16383,32767,65535,131071,262143,524287,1048575,2097151,4194303,8388607,16777215,2097151,35651583,102760447,2097151,270532607,807403519,1881145343,4028628991,8558477311,17179869183,34359738367,68719476735]
theorem dA.MK:pZ .any (opsOf Tryz.f106 1)=dA.T1:=by kernel_rfl
theorem dA.Ee:pT dA.T1.2 dA.B1=true:=by kernel_rfl
set_option maxHeartbeats 8000000 in
set_option maxRecDepth 100000 in
theorem dA.calls (bg:Int) (bP:Bool) (dS:Option Addr) (dU:Nat) (cH:List ByteArray) (bD:ByteArray) (bI:ByteArray) (bU:Bool) (cV:Option Addr) (cU:Nat) (bL:List (jM)) (dV:Option Addr) (dW:Nat) (cN:List Int) (bW:Int) (gz:Int) (gF:Bool) (og:Option Addr) (om:Nat) (kU:List ByteArray) (iX:ByteArray) (iN:ByteArray) (iO:Bool) (lU:Option Addr) (lV:Nat) (iK:List (jM)) (oo:Option Addr) (oq:Nat) (lK:List Int) (jN:Int) (a2:Int) (r:Bool) (w:World) (qy:Kd.C Kd.string w dS cH.length cH) (qz:cH.length≤dU) (mN:Kd.C sM w cV bL.length bL) (mY:bL.length≤cU) (qA:Kd.C (Kd.int .u8) w dV cN.length cN) (qB:cN.length≤dW) (K4:Kd.C Kd.string w og kU.length kU) (K5:kU.length≤om) (zN:Kd.C sM w lU iK.length iK) (zO:iK.length≤lV) (K6:Kd.C (Kd.int .u8) w oo lK.length lK) (K7:lK.length≤oq) (h:dA.f bg bP cH bD bI bU bL cN bW gz gF kU iX iN iO iK lK jN a2=some r):
 Calls Tryz.prog 106 #[.agg #[.int .i64 bg,.bool bP,.slice dS cH.length dU,.string bD,.string bI,.bool bU,.slice cV bL.length cU,.slice dV cN.length dW,.int .i64 bW],.agg #[.int .i64 gz,.bool gF,.slice og kU.length om,.string iX,.string iN,.bool iO,.slice lU iK.length lV,.slice oo lK.length oq,.int .i64 jN],.int .i64 a2] w fun e w'=>e= .returned (.bool r)∧Below w.heap.size w w':=by
 have BW:=Tryz.underlying34
 have ME:=Tryz.underlying37
 have KD:=Tryz.underlying29
 have mO:=ah.mk qy
 have mP:=ah.mk qz
 clear qy qz
 have lQ:=ah.mk mN
 have mF:=ah.mk mY
 clear mN mY
 have vY:=ah.mk qA
 have vZ:=ah.mk qB
 clear qA qB
 have PD:=ah.mk K4
 have PE:=ah.mk K5
 clear K4 K5
 have UD:=ah.mk zN
 have UE:=ah.mk zO
 clear zN zO
 have abE:=ah.mk K6
 have abF:=ah.mk K7
 clear K6 K7
 have HB:=ah.mk (Below.refl w.heap.size w)
 have H:((dc.f bg bP cH bD bI bU bL cN bW).bind fun t250=>(if t250=true then (some false) else (if bg≥a2 then (if bP=true then (if (bL.length:Int)=1 then (if 0 < (bL.length:Int) then (some (((((bM bL 0).f0.f0).toList) == iX.toList && ((((bM bL 0).f0.f1).toList) == iN.toList && (((bM bL 0).f0.f2) == iO))) && (((bM bL 0).f1) == 0 && (((bM bL 0).f2) == 0)))) else (none)) else (some false)) else (some false)) else (some false))))=some r:=h
 clear h
 obtain ⟨t250,A4,H⟩:=bd_ H
 by_cases c5:t250=true
 ·subst c5
  rw [if_pos rfl] at H
  obtain rfl:=Option.some.inj H
  go_enter Tryz.func106,Tryz.ntmps106
  try go_wp2_with (first|((with_reducible refine bp (N:=3) rfl ?_);(try (refine bV (by rfl) ?_;dsimp only));refine br ?hg (N:=3) ?hd (cs:=#[.int .i64 bg,.bool bP,.slice dS cH.length dU,.string bD,.string bI,.bool bU,.slice cV bL.length cU,.slice dV cN.length dW,.int .i64 bW]) (t:=34) ?hr ?_;(case hd=>rfl);(case hg=>rfl);(case hr=>(go_simp;done));intro fo hg w6 bG hb;have cy:=ah.mk (bG);have PF:=ah.mk ((bF:w.heap.size≤fo));have PG:=ah.mk ((bF:w.heap.size≤fo));replace HB:=ah.mk (ay aJ hb);clear hb bG hg)|((with_reducible refine bp (N:=4) rfl ?_);(try (refine bV (by rfl) ?_;dsimp only));refine br ?hg (N:=4) ?hd (cs:=#[.int .i64 gz,.bool gF,.slice og kU.length om,.string iX,.string iN,.bool iO,.slice lU iK.length lV,.slice oo lK.length oq,.int .i64 jN]) (t:=34) ?hr ?_;(case hd=>rfl);(case hg=>rfl);(case hr=>(go_simp;done));intro je hg w7 bG hb;have fR:=ah.mk (bG);have PI:=ah.mk ((bF:w.heap.size≤je));have PJ:=ah.mk ((bF:w.heap.size≤je));replace HB:=ah.mk (ay aJ hb);have xN:=ah.mk ((Dw:fo≠je));have xO:=ah.mk ((Dx:je≠fo));replace cy:=ah.mk (aA sK hb);clear hb bG hg))
  have kj:=ah.mk (iA cy.out)
  have ko:=ah.mk (iA fR.out)
  have mV:=ah.mk (fS HB.out)
  clear cy
  clear fR
  clear HB
  have cy:=kj
  have fR:=ko
  have HB:=mV
  clear kj ko mV
  refine kS (n:=37) (S:=fun w'=>w'.cell? ⟨fo,0,none⟩=some (.int .i64 bg)∧w'.cell? ⟨fo,1,none⟩=some (.bool bP)∧w'.cell? ⟨fo,2,none⟩=some (.slice dS cH.length dU)∧w'.cell? ⟨fo,3,none⟩=some (.string bD)∧w'.cell? ⟨fo,4,none⟩=some (.string bI)∧w'.cell? ⟨fo,5,none⟩=some (.bool bU)∧w'.cell? ⟨fo,6,none⟩=some (.slice cV bL.length cU)∧w'.cell? ⟨fo,7,none⟩=some (.slice dV cN.length dW)∧w'.cell? ⟨fo,8,none⟩=some (.int .i64 bW)) (ds:=[]) #[false,false,false,false,false,false,false,false,false,false,false,false,false,false,false,false,false,false,false,false,false,false,false,false,false,false,false,false,false,false,false,false,false,false,false,false,false] aq (by rfl) (by rfl) ⟨(af cy.out 0).trans rfl,(af cy.out 1).trans rfl,(af cy.out 2).trans rfl,(af cy.out 3).trans rfl,(af cy.out 4).trans rfl,(af cy.out 5).trans rfl,(af cy.out 6).trans rfl,(af cy.out 7).trans rfl,(af cy.out 8).trans rfl⟩ (fun hHeld=>?_);refine kL dA.MK dA.Ee (fun dh rq=>?_)
  generalize w7.drew=w8 at cy fR HB hHeld ⊢
  refine fL (i:=0) (N:=some 7) #[true,false,false,false,false,false,false,false,false,false,false,false,false,false,false,false,false,false,false,false,false,false,false,false,false,false,false,false,false,false,false,false,false,false,false,false,false] rfl rfl (eV dh.out rq.out aq) (fun _ _ _ h=>h) (Or.inl ⟨by rfl,pK⟩) hHeld cM ?_
  refine nP (i:=1) (N:=some 8) #[true,true,false,false,false,false,false,false,false,false,false,false,false,false,false,false,false,false,false,false,false,false,false,false,false,false,false,false,false,false,false,false,false,false,false,false,false] rfl rfl (jU dh.out aq) bC (fun K hK=>?_)
  refine lF Tryz.func63 aq rfl #[.agg #[.int .i64 bg,.bool bP,.slice dS cH.length dU,.string bD,.string bI,.bool bU,.slice cV bL.length cU,.slice dV cN.length dW,.int .i64 bW]] (by rfl) rfl rfl dK ?_
  with_reducible refine (dc.calls bg bP _ _ cH bD bI bU _ _ bL _ _ cN bW true _ ?bn ?bN ?cW ?fD ?gK ?gL A4.out).mono ?_
  (case bn=>repeat (exact (Kd.bQ mO.out HB.out)))
  (case bN=>exact mP.out)
  (case cW=>repeat (exact (Kd.bQ lQ.out HB.out)))
  (case fD=>exact mF.out)
  (case gK=>repeat (exact (Kd.bQ vY.out HB.out)))
  (case gL=>exact vZ.out)
  rintro e w9 ⟨rfl,hb⟩
  refine ⟨_,rfl,?_⟩
  have kj:=ah.mk (aA sK hb)
  have ko:=ah.mk (aA (g:=je) (o:= .cells #[.int .i64 gz,.bool gF,.slice og kU.length om,.string iX,.string iN,.bool iO,.slice lU iK.length lV,.slice oo lK.length oq,.int .i64 jN] 34 (0,0)) (by exact fR.out) hb)
  have mV:=ah.mk (ay aJ hb)
  clear cy
  clear fR
  clear HB
  have cy:=kj
  have fR:=ko
  have HB:=mV
  clear kj ko mV
  refine hK.out _ _ ⟨(af cy.out 0).trans rfl,(af cy.out 1).trans rfl,(af cy.out 2).trans rfl,(af cy.out 3).trans rfl,(af cy.out 4).trans rfl,(af cy.out 5).trans rfl,(af cy.out 6).trans rfl,(af cy.out 7).trans rfl,(af cy.out 8).trans rfl⟩ (fun hHeld=>?_)
  clear hK K
  refine ku (a':=?_) ?_ ?_
  rotate_left
  ·show Act.put _ (some 8) _=_
   simp only [Act.put,List.setIfInBounds_toArray,List.set_cons_zero,List.set_cons_succ,aV,aW]
   rfl
  refine aN (i:=2) (N:=some 9) #[true,true,true,false,false,false,false,false,false,false,false,false,false,false,false,false,false,false,false,false,false,false,false,false,false,false,false,false,false,false,false,false,false,false,false,false,false] rfl rfl (bf dh.out aq) (fun _ _ _ h=>h) (Or.inl ⟨by rfl,cD⟩) cM ?_
  refine aN (i:=3) (N:=some 10) #[true,true,true,true,false,false,false,false,false,false,false,false,false,false,false,false,false,false,false,false,false,false,false,false,false,false,false,false,false,false,false,false,false,false,false,false,false] rfl rfl (bf dh.out aq) (fun _ _ _ h=>h) (Or.inl ⟨by rfl,cD⟩) cM ?_
  refine aN (i:=4) (N:=some 11) (v:=undef) (a':=?_) #[true,true,true,true,true,false,false,false,false,false,false,false,false,false,false,false,false,false,false,false,false,false,false,false,false,false,false,false,false,false,false,false,false,false,false,false,false] rfl rfl (bf dh.out aq) (fun _ _ _ h=>h) (Or.inr ⟨by rfl,rfl⟩) ?_ ?_
  rotate_left
  ·simp only [Act.put,List.setIfInBounds_toArray,List.set_cons_zero,List.set_cons_succ,aV,aW]
   rfl
  refine aN (i:=5) (N:=some 12) (v:=undef) (a':=?_) #[true,true,true,true,true,true,false,false,false,false,false,false,false,false,false,false,false,false,false,false,false,false,false,false,false,false,false,false,false,false,false,false,false,false,false,false,false] rfl rfl (bf dh.out aq) (fun _ _ _ h=>h) (Or.inr ⟨by rfl,rfl⟩) ?_ ?_
  rotate_left
  ·simp only [Act.put,List.setIfInBounds_toArray,List.set_cons_zero,List.set_cons_succ,aV,aW]
   rfl
  refine aN (i:=6) (N:=some 13) (v:=undef) (a':=?_) #[true,true,true,true,true,true,true,false,false,false,false,false,false,false,false,false,false,false,false,false,false,false,false,false,false,false,false,false,false,false,false,false,false,false,false,false,false] rfl rfl (bf dh.out aq) (fun _ _ _ h=>h) (Or.inr ⟨by rfl,rfl⟩) ?_ ?_
  rotate_left
  ·simp only [Act.put,List.setIfInBounds_toArray,List.set_cons_zero,List.set_cons_succ,aV,aW]
   rfl
  refine aN (i:=7) (N:=some 14) (v:=undef) (a':=?_) #[true,true,true,true,true,true,true,true,false,false,false,false,false,false,false,false,false,false,false,false,false,false,false,false,false,false,false,false,false,false,false,false,false,false,false,false,false] rfl rfl (bf dh.out aq) (fun _ _ _ h=>h) (Or.inr ⟨by rfl,rfl⟩) ?_ ?_
  rotate_left
  ·simp only [Act.put,List.setIfInBounds_toArray,List.set_cons_zero,List.set_cons_succ,aV,aW]
   rfl
  refine aN (i:=8) (N:=some 15) #[true,true,true,true,true,true,true,true,true,false,false,false,false,false,false,false,false,false,false,false,false,false,false,false,false,false,false,false,false,false,false,false,false,false,false,false,false] rfl rfl (bf dh.out aq) (fun _ _ _ h=>h) (Or.inl ⟨by rfl,cD⟩) cM ?_
  refine aN (i:=9) (N:=some 16) #[true,true,true,true,true,true,true,true,true,true,false,false,false,false,false,false,false,false,false,false,false,false,false,false,false,false,false,false,false,false,false,false,false,false,false,false,false] rfl rfl (bf dh.out aq) (fun _ _ _ h=>h) (Or.inl ⟨by rfl,cD⟩) cM ?_
  refine aN (i:=10) (N:=some 17) (v:=undef) (a':=?_) #[true,true,true,true,true,true,true,true,true,true,true,false,false,false,false,false,false,false,false,false,false,false,false,false,false,false,false,false,false,false,false,false,false,false,false,false,false] rfl rfl (bf dh.out aq) (fun _ _ _ h=>h) (Or.inr ⟨by rfl,rfl⟩) ?_ ?_
  rotate_left
  ·simp only [Act.put,List.setIfInBounds_toArray,List.set_cons_zero,List.set_cons_succ,aV,aW]
   rfl
  refine aN (i:=11) (N:=some 18) (v:=undef) (a':=?_) #[true,true,true,true,true,true,true,true,true,true,true,true,false,false,false,false,false,false,false,false,false,false,false,false,false,false,false,false,false,false,false,false,false,false,false,false,false] rfl rfl (bf dh.out aq) (fun _ _ _ h=>h) (Or.inr ⟨by rfl,rfl⟩) ?_ ?_
  rotate_left
  ·simp only [Act.put,List.setIfInBounds_toArray,List.set_cons_zero,List.set_cons_succ,aV,aW]
   rfl
  refine aN (i:=12) (N:=some 19) (v:=undef) (a':=?_) #[true,true,true,true,true,true,true,true,true,true,true,true,true,false,false,false,false,false,false,false,false,false,false,false,false,false,false,false,false,false,false,false,false,false,false,false,false] rfl rfl (bf dh.out aq) (fun _ _ _ h=>h) (Or.inr ⟨by rfl,rfl⟩) ?_ ?_
  rotate_left
  ·simp only [Act.put,List.setIfInBounds_toArray,List.set_cons_zero,List.set_cons_succ,aV,aW]
   rfl
  refine aN (i:=13) (N:=some 20) #[true,true,true,true,true,true,true,true,true,true,true,true,true,true,false,false,false,false,false,false,false,false,false,false,false,false,false,false,false,false,false,false,false,false,false,false,false] rfl rfl (bf dh.out aq) (fun _ _ _ h=>h) (Or.inl ⟨by rfl,cD⟩) cM ?_
  refine aN (i:=14) (N:=some 21) #[true,true,true,true,true,true,true,true,true,true,true,true,true,true,true,false,false,false,false,false,false,false,false,false,false,false,false,false,false,false,false,false,false,false,false,false,false] rfl rfl (bf dh.out aq) (fun _ _ _ h=>h) (Or.inl ⟨by rfl,cD⟩) cM ?_
  refine aN (i:=15) (N:=some 22) (v:=undef) (a':=?_) #[true,true,true,true,true,true,true,true,true,true,true,true,true,true,true,true,false,false,false,false,false,false,false,false,false,false,false,false,false,false,false,false,false,false,false,false,false] rfl rfl (bf dh.out aq) (fun _ _ _ h=>h) (Or.inr ⟨by rfl,rfl⟩) ?_ ?_
  rotate_left
  ·simp only [Act.put,List.setIfInBounds_toArray,List.set_cons_zero,List.set_cons_succ,aV,aW]
   rfl
  refine aN (i:=16) (N:=some 23) (v:=undef) (a':=?_) #[true,true,true,true,true,true,true,true,true,true,true,true,true,true,true,true,true,false,false,false,false,false,false,false,false,false,false,false,false,false,false,false,false,false,false,false,false] rfl rfl (bf dh.out aq) (fun _ _ _ h=>h) (Or.inr ⟨by rfl,rfl⟩) ?_ ?_
  rotate_left
  ·simp only [Act.put,List.setIfInBounds_toArray,List.set_cons_zero,List.set_cons_succ,aV,aW]
   rfl
  refine aN (i:=17) (N:=some 24) (v:=undef) (a':=?_) #[true,true,true,true,true,true,true,true,true,true,true,true,true,true,true,true,true,true,false,false,false,false,false,false,false,false,false,false,false,false,false,false,false,false,false,false,false] rfl rfl (bf dh.out aq) (fun _ _ _ h=>h) (Or.inr ⟨by rfl,rfl⟩) ?_ ?_
  rotate_left
  ·simp only [Act.put,List.setIfInBounds_toArray,List.set_cons_zero,List.set_cons_succ,aV,aW]
   rfl
  refine aN (i:=18) (N:=some 25) (v:=undef) (a':=?_) #[true,true,true,true,true,true,true,true,true,true,true,true,true,true,true,true,true,true,true,false,false,false,false,false,false,false,false,false,false,false,false,false,false,false,false,false,false] rfl rfl (bf dh.out aq) (fun _ _ _ h=>h) (Or.inr ⟨by rfl,rfl⟩) ?_ ?_
  rotate_left
  ·simp only [Act.put,List.setIfInBounds_toArray,List.set_cons_zero,List.set_cons_succ,aV,aW]
   rfl
  refine aN (i:=19) (N:=some 26) #[true,true,true,true,true,true,true,true,true,true,true,true,true,true,true,true,true,true,true,true,false,false,false,false,false,false,false,false,false,false,false,false,false,false,false,false,false] rfl rfl (bf dh.out aq) (fun _ _ _ h=>h) (Or.inl ⟨by rfl,cD⟩) cM ?_
  refine aN (i:=20) (N:=some 27) #[true,true,true,true,true,true,true,true,true,true,true,true,true,true,true,true,true,true,true,true,true,false,false,false,false,false,false,false,false,false,false,false,false,false,false,false,false] rfl rfl (bf dh.out aq) (fun _ _ _ h=>h) (Or.inl ⟨by rfl,cD⟩) cM ?_
  refine aN (i:=21) (N:=some 28) (v:=undef) (a':=?_) #[true,true,true,true,true,true,true,true,true,true,true,true,true,true,true,true,true,true,true,true,true,true,false,false,false,false,false,false,false,false,false,false,false,false,false,false,false] rfl rfl (bf dh.out aq) (fun _ _ _ h=>h) (Or.inr ⟨by rfl,rfl⟩) ?_ ?_
  rotate_left
  ·simp only [Act.put,List.setIfInBounds_toArray,List.set_cons_zero,List.set_cons_succ,aV,aW]
   rfl
  refine aN (i:=22) (N:=some 29) (v:=undef) (a':=?_) #[true,true,true,true,true,true,true,true,true,true,true,true,true,true,true,true,true,true,true,true,true,true,true,false,false,false,false,false,false,false,false,false,false,false,false,false,false] rfl rfl (bf dh.out aq) (fun _ _ _ h=>h) (Or.inr ⟨by rfl,rfl⟩) ?_ ?_
  rotate_left
  ·simp only [Act.put,List.setIfInBounds_toArray,List.set_cons_zero,List.set_cons_succ,aV,aW]
   rfl
  refine aN (i:=23) (N:=some 30) (v:=undef) (a':=?_) #[true,true,true,true,true,true,true,true,true,true,true,true,true,true,true,true,true,true,true,true,true,true,true,true,false,false,false,false,false,false,false,false,false,false,false,false,false] rfl rfl (bf dh.out aq) (fun _ _ _ h=>h) (Or.inr ⟨by rfl,rfl⟩) ?_ ?_
  rotate_left
  ·simp only [Act.put,List.setIfInBounds_toArray,List.set_cons_zero,List.set_cons_succ,aV,aW]
   rfl
  refine aN (i:=24) (N:=some 31) (v:=undef) (a':=?_) #[true,true,true,true,true,true,true,true,true,true,true,true,true,true,true,true,true,true,true,true,true,true,true,true,true,false,false,false,false,false,false,false,false,false,false,false,false] rfl rfl (bf dh.out aq) (fun _ _ _ h=>h) (Or.inr ⟨by rfl,rfl⟩) ?_ ?_
  rotate_left
  ·simp only [Act.put,List.setIfInBounds_toArray,List.set_cons_zero,List.set_cons_succ,aV,aW]
   rfl
  refine aN (i:=25) (N:=some 32) (v:=undef) (a':=?_) #[true,true,true,true,true,true,true,true,true,true,true,true,true,true,true,true,true,true,true,true,true,true,true,true,true,true,false,false,false,false,false,false,false,false,false,false,false] rfl rfl (bf dh.out aq) (fun _ _ _ h=>h) (Or.inr ⟨by rfl,rfl⟩) ?_ ?_
  rotate_left
  ·simp only [Act.put,List.setIfInBounds_toArray,List.set_cons_zero,List.set_cons_succ,aV,aW]
   rfl
  refine aN (i:=26) (N:=some 33) (v:=undef) (a':=?_) #[true,true,true,true,true,true,true,true,true,true,true,true,true,true,true,true,true,true,true,true,true,true,true,true,true,true,true,false,false,false,false,false,false,false,false,false,false] rfl rfl (bf dh.out aq) (fun _ _ _ h=>h) (Or.inr ⟨by rfl,rfl⟩) ?_ ?_
  rotate_left
  ·simp only [Act.put,List.setIfInBounds_toArray,List.set_cons_zero,List.set_cons_succ,aV,aW]
   rfl
  refine aN (i:=27) (N:=some 34) (v:=undef) (a':=?_) #[true,true,true,true,true,true,true,true,true,true,true,true,true,true,true,true,true,true,true,true,true,true,true,true,true,true,true,true,false,false,false,false,false,false,false,false,false] rfl rfl (bf dh.out aq) (fun _ _ _ h=>h) (Or.inr ⟨by rfl,rfl⟩) ?_ ?_
  rotate_left
  ·simp only [Act.put,List.setIfInBounds_toArray,List.set_cons_zero,List.set_cons_succ,aV,aW]
   rfl
  refine aN (i:=28) (N:=some 35) (v:=undef) (a':=?_) #[true,true,true,true,true,true,true,true,true,true,true,true,true,true,true,true,true,true,true,true,true,true,true,true,true,true,true,true,true,false,false,false,false,false,false,false,false] rfl rfl (bf dh.out aq) (fun _ _ _ h=>h) (Or.inr ⟨by rfl,rfl⟩) ?_ ?_
  rotate_left
  ·simp only [Act.put,List.setIfInBounds_toArray,List.set_cons_zero,List.set_cons_succ,aV,aW]
   rfl
  refine aN (i:=29) (N:=some 36) (v:=undef) (a':=?_) #[true,true,true,true,true,true,true,true,true,true,true,true,true,true,true,true,true,true,true,true,true,true,true,true,true,true,true,true,true,true,false,false,false,false,false,false,false] rfl rfl (bf dh.out aq) (fun _ _ _ h=>h) (Or.inr ⟨by rfl,rfl⟩) ?_ ?_
  rotate_left
  ·simp only [Act.put,List.setIfInBounds_toArray,List.set_cons_zero,List.set_cons_succ,aV,aW]
   rfl
  refine aN (i:=30) (N:=some 37) (v:=undef) (a':=?_) #[true,true,true,true,true,true,true,true,true,true,true,true,true,true,true,true,true,true,true,true,true,true,true,true,true,true,true,true,true,true,true,false,false,false,false,false,false] rfl rfl (bf dh.out aq) (fun _ _ _ h=>h) (Or.inr ⟨by rfl,rfl⟩) ?_ ?_
  rotate_left
  ·simp only [Act.put,List.setIfInBounds_toArray,List.set_cons_zero,List.set_cons_succ,aV,aW]
   rfl
  refine aN (i:=31) (N:=some 38) (v:=undef) (a':=?_) #[true,true,true,true,true,true,true,true,true,true,true,true,true,true,true,true,true,true,true,true,true,true,true,true,true,true,true,true,true,true,true,true,false,false,false,false,false] rfl rfl (bf dh.out aq) (fun _ _ _ h=>h) (Or.inr ⟨by rfl,rfl⟩) ?_ ?_
  rotate_left
  ·simp only [Act.put,List.setIfInBounds_toArray,List.set_cons_zero,List.set_cons_succ,aV,aW]
   rfl
  refine aN (i:=32) (N:=some 39) (v:=undef) (a':=?_) #[true,true,true,true,true,true,true,true,true,true,true,true,true,true,true,true,true,true,true,true,true,true,true,true,true,true,true,true,true,true,true,true,true,false,false,false,false] rfl rfl (bf dh.out aq) (fun _ _ _ h=>h) (Or.inr ⟨by rfl,rfl⟩) ?_ ?_
  rotate_left
  ·simp only [Act.put,List.setIfInBounds_toArray,List.set_cons_zero,List.set_cons_succ,aV,aW]
   rfl
  refine aN (i:=33) (N:=some 40) (v:=undef) (a':=?_) #[true,true,true,true,true,true,true,true,true,true,true,true,true,true,true,true,true,true,true,true,true,true,true,true,true,true,true,true,true,true,true,true,true,true,false,false,false] rfl rfl (bf dh.out aq) (fun _ _ _ h=>h) (Or.inr ⟨by rfl,rfl⟩) ?_ ?_
  rotate_left
  ·simp only [Act.put,List.setIfInBounds_toArray,List.set_cons_zero,List.set_cons_succ,aV,aW]
   rfl
  refine aN (i:=34) (N:=some 41) (v:=undef) (a':=?_) #[true,true,true,true,true,true,true,true,true,true,true,true,true,true,true,true,true,true,true,true,true,true,true,true,true,true,true,true,true,true,true,true,true,true,true,false,false] rfl rfl (bf dh.out aq) (fun _ _ _ h=>h) (Or.inr ⟨by rfl,rfl⟩) ?_ ?_
  rotate_left
  ·simp only [Act.put,List.setIfInBounds_toArray,List.set_cons_zero,List.set_cons_succ,aV,aW]
   rfl
  refine aN (i:=35) (N:=some 42) #[true,true,true,true,true,true,true,true,true,true,true,true,true,true,true,true,true,true,true,true,true,true,true,true,true,true,true,true,true,true,true,true,true,true,true,true,false] rfl rfl (bf dh.out aq) (fun _ _ _ h=>h) (Or.inl ⟨by rfl,cD⟩) cM ?_
  refine aN (i:=36) (N:=some 6) #[true,true,true,true,true,true,true,true,true,true,true,true,true,true,true,true,true,true,true,true,true,true,true,true,true,true,true,true,true,true,true,true,true,true,true,true,true] rfl rfl (bf dh.out aq) (fun _ _ _ h=>h) (Or.inl ⟨by rfl,cD⟩) cM ?_
  refine nv (nJ dh.out aq) ?_
  try go_wp2
  go_ret
  exact ⟨by rfl,aJ⟩
 ·replace c5:=Bool.eq_false_iff.mpr c5
  subst c5
  rw [if_neg (show ¬ (false=true) by decide)] at H
  by_cases c10:bg≥a2
  ·rw [if_pos c10] at H
   have BG:decide (a2≤bg)=true:=decide_eq_true c10
   clear c10
   by_cases c11:bP=true
   ·subst c11
    rw [if_pos rfl] at H
    by_cases c12:(bL.length:Int)=1
    ·rw [if_pos c12] at H
     have Fx:=beq_iff_eq.mpr c12
     have TS:=bne_eq_false_iff_eq.mpr c12
     clear c12
     obtain ⟨c13,H⟩:=lO H
     have D8:=decide_eq_true c13
     have KS:decide (0 < bL.length)=true:=decide_eq_true az
     clear c13
     obtain rfl:=Option.some.inj H
     go_enter Tryz.func106,Tryz.ntmps106
     try go_wp2_with (first|((with_reducible refine bp (N:=3) rfl ?_);(try (refine bV (by rfl) ?_;dsimp only));refine br ?hg (N:=3) ?hd (cs:=#[.int .i64 bg,.bool true,.slice dS cH.length dU,.string bD,.string bI,.bool bU,.slice cV bL.length cU,.slice dV cN.length dW,.int .i64 bW]) (t:=34) ?hr ?_;(case hd=>rfl);(case hg=>rfl);(case hr=>(go_simp;done));intro fo hg LS bG hb;have cy:=ah.mk (bG);have PF:=ah.mk ((bF:w.heap.size≤fo));have PG:=ah.mk ((bF:w.heap.size≤fo));replace HB:=ah.mk (ay aJ hb);clear hb bG hg)|((with_reducible refine bp (N:=4) rfl ?_);(try (refine bV (by rfl) ?_;dsimp only));refine br ?hg (N:=4) ?hd (cs:=#[.int .i64 gz,.bool gF,.slice og kU.length om,.string iX,.string iN,.bool iO,.slice lU iK.length lV,.slice oo lK.length oq,.int .i64 jN]) (t:=34) ?hr ?_;(case hd=>rfl);(case hg=>rfl);(case hr=>(go_simp;done));intro je hg vF bG hb;have fR:=ah.mk (bG);have PI:=ah.mk ((bF:w.heap.size≤je));have PJ:=ah.mk ((bF:w.heap.size≤je));replace HB:=ah.mk (ay aJ hb);have xN:=ah.mk ((Dw:fo≠je));have xO:=ah.mk ((Dx:je≠fo));replace cy:=ah.mk (aA sK hb);clear hb bG hg))
     have kj:=ah.mk (iA cy.out)
     have ko:=ah.mk (iA fR.out)
     have mV:=ah.mk (fS HB.out)
     clear cy
     clear fR
     clear HB
     have cy:=kj
     have fR:=ko
     have HB:=mV
     clear kj ko mV
     have adE: 0≤(0:Int):=az
     have adF: 0 < (bL.length:Int):=of_decide_eq_true cj
     obtain ⟨lW,ays,rL,rM,rN,rO,rP,rQ⟩:=nQ lQ.out 0 adE adF
     have uB:=rQ
     (try rw [show ((0:Int)).toNat=0 from rfl] at uB)
     (try rw [show 0 * 6=0 from rfl] at uB)
     (try rw [Addr.add_zero'] at uB)
     have uC:=rP
     (try rw [show ((0:Int)).toNat=0 from rfl] at uC)
     (try rw [show 0 * 6=0 from rfl] at uC)
     (try rw [Addr.add_zero'] at uC)
     have uD:=rO
     (try rw [show ((0:Int)).toNat=0 from rfl] at uD)
     (try rw [show 0 * 6=0 from rfl] at uD)
     (try rw [Addr.add_zero'] at uD)
     have uE:=rN
     (try rw [show ((0:Int)).toNat=0 from rfl] at uE)
     (try rw [show 0 * 6=0 from rfl] at uE)
     (try rw [Addr.add_zero'] at uE)
     have uF:=rM
     (try rw [show ((0:Int)).toNat=0 from rfl] at uF)
     (try rw [show 0 * 6=0 from rfl] at uF)
     (try rw [Addr.add_zero'] at uF)
     have uG:=rL
     (try rw [show ((0:Int)).toNat=0 from rfl] at uG)
     (try rw [show 0 * 6=0 from rfl] at uG)
     (try rw [Addr.add_zero'] at uG)
     cases ays
     have aAX:(0 < bL.length)=True:=eq_true az
     (try rw [show ((0:Int)).toNat=0 from rfl] at rL)
     (try rw [show 0 * 6=0 from rfl] at rL)
     (try rw [Addr.add_zero'] at rL)
     (try rw [show ((0:Int)).toNat=0 from rfl] at rM)
     (try rw [show 0 * 6=0 from rfl] at rM)
     (try rw [Addr.add_zero'] at rM)
     (try rw [show ((0:Int)).toNat=0 from rfl] at rN)
     (try rw [show 0 * 6=0 from rfl] at rN)
     (try rw [Addr.add_zero'] at rN)
     (try rw [show ((0:Int)).toNat=0 from rfl] at rO)
     (try rw [show 0 * 6=0 from rfl] at rO)
     (try rw [Addr.add_zero'] at rO)
     (try rw [show ((0:Int)).toNat=0 from rfl] at rP)
     (try rw [show 0 * 6=0 from rfl] at rP)
     (try rw [Addr.add_zero'] at rP)
     (try rw [show ((0:Int)).toNat=0 from rfl] at rQ)
     (try rw [show 0 * 6=0 from rfl] at rQ)
     (try rw [Addr.add_zero'] at rQ)
     replace rL:=(HB.out.cell (World.block_lt_of_cell? w _ rL)).trans rL
     replace rM:=(HB.out.cell (World.block_lt_of_cell? w _ rM)).trans rM
     replace rN:=(HB.out.cell (World.block_lt_of_cell? w _ rN)).trans rN
     replace rO:=(HB.out.cell (World.block_lt_of_cell? w _ rO)).trans rO
     replace rP:=(HB.out.cell (World.block_lt_of_cell? w _ rP)).trans rP
     replace rQ:=(HB.out.cell (World.block_lt_of_cell? w _ rQ)).trans rQ
     replace adE:=eq_true adE
     replace adF:=eq_true adF
     have adG: 0≤(0:Int):=az
     have adH: 0 < (bL.length:Int):=of_decide_eq_true cj
     obtain ⟨ahT,ayt,rR,rS,rT,rU,rV,rW⟩:=nQ lQ.out 0 adG adH
     have uH:=rW
     (try rw [show ((0:Int)).toNat=0 from rfl] at uH)
     (try rw [show 0 * 6=0 from rfl] at uH)
     (try rw [Addr.add_zero'] at uH)
     have uI:=rV
     (try rw [show ((0:Int)).toNat=0 from rfl] at uI)
     (try rw [show 0 * 6=0 from rfl] at uI)
     (try rw [Addr.add_zero'] at uI)
     have uJ:=rU
     (try rw [show ((0:Int)).toNat=0 from rfl] at uJ)
     (try rw [show 0 * 6=0 from rfl] at uJ)
     (try rw [Addr.add_zero'] at uJ)
     have uK:=rT
     (try rw [show ((0:Int)).toNat=0 from rfl] at uK)
     (try rw [show 0 * 6=0 from rfl] at uK)
     (try rw [Addr.add_zero'] at uK)
     have uL:=rS
     (try rw [show ((0:Int)).toNat=0 from rfl] at uL)
     (try rw [show 0 * 6=0 from rfl] at uL)
     (try rw [Addr.add_zero'] at uL)
     have uM:=rR
     (try rw [show ((0:Int)).toNat=0 from rfl] at uM)
     (try rw [show 0 * 6=0 from rfl] at uM)
     (try rw [Addr.add_zero'] at uM)
     obtain rfl:lW=ahT:=(by injection ayt)
     have aAY:(0 < bL.length)=True:=eq_true az
     (try rw [show ((0:Int)).toNat=0 from rfl] at rR)
     (try rw [show 0 * 6=0 from rfl] at rR)
     (try rw [Addr.add_zero'] at rR)
     (try rw [show ((0:Int)).toNat=0 from rfl] at rS)
     (try rw [show 0 * 6=0 from rfl] at rS)
     (try rw [Addr.add_zero'] at rS)
     (try rw [show ((0:Int)).toNat=0 from rfl] at rT)
     (try rw [show 0 * 6=0 from rfl] at rT)
     (try rw [Addr.add_zero'] at rT)
     (try rw [show ((0:Int)).toNat=0 from rfl] at rU)
     (try rw [show 0 * 6=0 from rfl] at rU)
     (try rw [Addr.add_zero'] at rU)
     (try rw [show ((0:Int)).toNat=0 from rfl] at rV)
     (try rw [show 0 * 6=0 from rfl] at rV)
     (try rw [Addr.add_zero'] at rV)
     (try rw [show ((0:Int)).toNat=0 from rfl] at rW)
     (try rw [show 0 * 6=0 from rfl] at rW)
     (try rw [Addr.add_zero'] at rW)
     replace rR:=(HB.out.cell (World.block_lt_of_cell? w _ rR)).trans rR
     replace rS:=(HB.out.cell (World.block_lt_of_cell? w _ rS)).trans rS
     replace rT:=(HB.out.cell (World.block_lt_of_cell? w _ rT)).trans rT
     replace rU:=(HB.out.cell (World.block_lt_of_cell? w _ rU)).trans rU
     replace rV:=(HB.out.cell (World.block_lt_of_cell? w _ rV)).trans rV
     replace rW:=(HB.out.cell (World.block_lt_of_cell? w _ rW)).trans rW
     replace adG:=eq_true adG
     replace adH:=eq_true adH
     refine kS (n:=37) (S:=fun w'=>w'.cell? ⟨fo,0,none⟩=some (.int .i64 bg)∧w'.cell? ⟨fo,1,none⟩=some (.bool true)∧w'.cell? ⟨fo,2,none⟩=some (.slice dS cH.length dU)∧w'.cell? ⟨fo,3,none⟩=some (.string bD)∧w'.cell? ⟨fo,4,none⟩=some (.string bI)∧w'.cell? ⟨fo,5,none⟩=some (.bool bU)∧w'.cell? ⟨fo,6,none⟩=some (.slice (some lW) bL.length cU)∧w'.cell? ⟨fo,7,none⟩=some (.slice dV cN.length dW)∧w'.cell? ⟨fo,8,none⟩=some (.int .i64 bW)∧w'.cell? ⟨je,0,none⟩=some (.int .i64 gz)∧w'.cell? ⟨je,1,none⟩=some (.bool gF)∧w'.cell? ⟨je,2,none⟩=some (.slice og kU.length om)∧w'.cell? ⟨je,3,none⟩=some (.string iX)∧w'.cell? ⟨je,4,none⟩=some (.string iN)∧w'.cell? ⟨je,5,none⟩=some (.bool iO)∧w'.cell? ⟨je,6,none⟩=some (.slice lU iK.length lV)∧w'.cell? ⟨je,7,none⟩=some (.slice oo lK.length oq)∧w'.cell? ⟨je,8,none⟩=some (.int .i64 jN)∧w'.cell? lW=some (.string ((bM bL 0).f0.f0))∧w'.cell? ⟨lW.block,lW.off + 1,none⟩=some (.string ((bM bL 0).f0.f1))∧w'.cell? ⟨lW.block,lW.off + 2,none⟩=some (.bool ((bM bL 0).f0.f2))∧w'.cell? ⟨lW.block,lW.off + 3,none⟩=some (.int .u8 ((bM bL 0).f1))∧w'.cell? ⟨lW.block,lW.off + 4,none⟩=some (.int .i64 ((bM bL 0).f2))∧w'.cell? ⟨lW.block,lW.off + 5,none⟩=some (.int .i64 ((bM bL 0).f3))∧w'.cell? lW=some (.string ((bM bL 0).f0.f0))∧w'.cell? ⟨lW.block,lW.off + 1,none⟩=some (.string ((bM bL 0).f0.f1))∧w'.cell? ⟨lW.block,lW.off + 2,none⟩=some (.bool ((bM bL 0).f0.f2))∧w'.cell? ⟨lW.block,lW.off + 3,none⟩=some (.int .u8 ((bM bL 0).f1))∧w'.cell? ⟨lW.block,lW.off + 4,none⟩=some (.int .i64 ((bM bL 0).f2))∧w'.cell? ⟨lW.block,lW.off + 5,none⟩=some (.int .i64 ((bM bL 0).f3))) (ds:=[]) #[false,false,false,false,false,false,false,false,false,false,false,false,false,false,false,false,false,false,false,false,false,false,false,false,false,false,false,false,false,false,false,false,false,false,false,false,false] aq (by rfl) (by rfl) ⟨(af cy.out 0).trans rfl,(af cy.out 1).trans rfl,(af cy.out 2).trans rfl,(af cy.out 3).trans rfl,(af cy.out 4).trans rfl,(af cy.out 5).trans rfl,(af cy.out 6).trans rfl,(af cy.out 7).trans rfl,(af cy.out 8).trans rfl,(af fR.out 0).trans rfl,(af fR.out 1).trans rfl,(af fR.out 2).trans rfl,(af fR.out 3).trans rfl,(af fR.out 4).trans rfl,(af fR.out 5).trans rfl,(af fR.out 6).trans rfl,(af fR.out 7).trans rfl,(af fR.out 8).trans rfl,((HB.out.cell (World.block_lt_of_cell? w _ uG)).trans uG),((HB.out.cell (World.block_lt_of_cell? w _ uF)).trans uF),((HB.out.cell (World.block_lt_of_cell? w _ uE)).trans uE),((HB.out.cell (World.block_lt_of_cell? w _ uD)).trans uD),((HB.out.cell (World.block_lt_of_cell? w _ uC)).trans uC),((HB.out.cell (World.block_lt_of_cell? w _ uB)).trans uB),((HB.out.cell (World.block_lt_of_cell? w _ uM)).trans uM),((HB.out.cell (World.block_lt_of_cell? w _ uL)).trans uL),((HB.out.cell (World.block_lt_of_cell? w _ uK)).trans uK),((HB.out.cell (World.block_lt_of_cell? w _ uJ)).trans uJ),((HB.out.cell (World.block_lt_of_cell? w _ uI)).trans uI),((HB.out.cell (World.block_lt_of_cell? w _ uH)).trans uH)⟩ (fun hHeld=>?_);refine kL dA.MK dA.Ee (fun dh rq=>?_)
     generalize vF.drew=tD at cy fR HB rL rM rN rO rP rQ rR rS rT rU rV rW hHeld ⊢
     refine fL (i:=0) (N:=some 7) #[true,false,false,false,false,false,false,false,false,false,false,false,false,false,false,false,false,false,false,false,false,false,false,false,false,false,false,false,false,false,false,false,false,false,false,false,false] rfl rfl (eV dh.out rq.out aq) (fun _ _ _ h=>h) (Or.inl ⟨by rfl,tV⟩) hHeld cM ?_
     refine nP (i:=1) (N:=some 8) #[true,true,false,false,false,false,false,false,false,false,false,false,false,false,false,false,false,false,false,false,false,false,false,false,false,false,false,false,false,false,false,false,false,false,false,false,false] rfl rfl (jU dh.out aq) bC (fun K hK=>?_)
     refine lF Tryz.func63 aq rfl #[.agg #[.int .i64 bg,.bool true,.slice dS cH.length dU,.string bD,.string bI,.bool bU,.slice (some lW) bL.length cU,.slice dV cN.length dW,.int .i64 bW]] (by rfl) rfl rfl dK ?_
     with_reducible refine (dc.calls bg true _ _ cH bD bI bU _ _ bL _ _ cN bW false _ ?bn ?bN ?cW ?fD ?gK ?gL A4.out).mono ?_
     (case bn=>repeat (exact (Kd.bQ mO.out HB.out)))
     (case bN=>exact mP.out)
     (case cW=>repeat (exact (Kd.bQ lQ.out HB.out)))
     (case fD=>exact mF.out)
     (case gK=>repeat (exact (Kd.bQ vY.out HB.out)))
     (case gL=>exact vZ.out)
     rintro e sN ⟨rfl,hb⟩
     refine ⟨_,rfl,?_⟩
     have kj:=ah.mk (aA sK hb)
     have ko:=ah.mk (aA (g:=je) (o:= .cells #[.int .i64 gz,.bool gF,.slice og kU.length om,.string iX,.string iN,.bool iO,.slice lU iK.length lV,.slice oo lK.length oq,.int .i64 jN] 34 (0,0)) (by exact fR.out) hb)
     have mV:=ah.mk (ay aJ hb)
     clear cy
     clear fR
     clear HB
     have cy:=kj
     have fR:=ko
     have HB:=mV
     clear kj ko mV
     refine hK.out _ _ ⟨(af cy.out 0).trans rfl,(af cy.out 1).trans rfl,(af cy.out 2).trans rfl,(af cy.out 3).trans rfl,(af cy.out 4).trans rfl,(af cy.out 5).trans rfl,(af cy.out 6).trans rfl,(af cy.out 7).trans rfl,(af cy.out 8).trans rfl,(af fR.out 0).trans rfl,(af fR.out 1).trans rfl,(af fR.out 2).trans rfl,(af fR.out 3).trans rfl,(af fR.out 4).trans rfl,(af fR.out 5).trans rfl,(af fR.out 6).trans rfl,(af fR.out 7).trans rfl,(af fR.out 8).trans rfl,((HB.out.cell (World.block_lt_of_cell? w _ uG)).trans uG),((HB.out.cell (World.block_lt_of_cell? w _ uF)).trans uF),((HB.out.cell (World.block_lt_of_cell? w _ uE)).trans uE),((HB.out.cell (World.block_lt_of_cell? w _ uD)).trans uD),((HB.out.cell (World.block_lt_of_cell? w _ uC)).trans uC),((HB.out.cell (World.block_lt_of_cell? w _ uB)).trans uB),((HB.out.cell (World.block_lt_of_cell? w _ uM)).trans uM),((HB.out.cell (World.block_lt_of_cell? w _ uL)).trans uL),((HB.out.cell (World.block_lt_of_cell? w _ uK)).trans uK),((HB.out.cell (World.block_lt_of_cell? w _ uJ)).trans uJ),((HB.out.cell (World.block_lt_of_cell? w _ uI)).trans uI),((HB.out.cell (World.block_lt_of_cell? w _ uH)).trans uH)⟩ (fun hHeld=>?_)
     clear hK K
     refine ku (a':=?_) ?_ ?_
     rotate_left
     ·show Act.put _ (some 8) _=_
      simp only [Act.put,List.setIfInBounds_toArray,List.set_cons_zero,List.set_cons_succ,aV,aW]
      rfl
     refine aN (i:=2) (N:=some 9) #[true,true,true,false,false,false,false,false,false,false,false,false,false,false,false,false,false,false,false,false,false,false,false,false,false,false,false,false,false,false,false,false,false,false,false,false,false] rfl rfl (bf dh.out aq) (fun _ _ _ h=>h) (Or.inl ⟨by rfl,cD⟩) cM ?_
     refine aN (i:=3) (N:=some 10) #[true,true,true,true,false,false,false,false,false,false,false,false,false,false,false,false,false,false,false,false,false,false,false,false,false,false,false,false,false,false,false,false,false,false,false,false,false] rfl rfl (bf dh.out aq) (fun _ _ _ h=>h) (Or.inl ⟨by rfl,cD⟩) cM ?_
     refine aN (i:=4) (N:=some 11) #[true,true,true,true,true,false,false,false,false,false,false,false,false,false,false,false,false,false,false,false,false,false,false,false,false,false,false,false,false,false,false,false,false,false,false,false,false] rfl rfl (bf dh.out aq) (fun _ _ _ h=>h) (Or.inl ⟨by rfl,cD⟩) cM ?_
     refine aN (i:=6) (N:=some 13) #[true,true,true,true,true,false,true,false,false,false,false,false,false,false,false,false,false,false,false,false,false,false,false,false,false,false,false,false,false,false,false,false,false,false,false,false,false] rfl rfl (bf dh.out aq) (fun _ _ _ h=>h) (Or.inl ⟨by rfl,cD⟩) cM ?_
     refine fL (i:=5) (N:=some 12) #[true,true,true,true,true,true,true,false,false,false,false,false,false,false,false,false,false,false,false,false,false,false,false,false,false,false,false,false,false,false,false,false,false,false,false,false,false] rfl rfl (eV dh.out rq.out aq) (fun _ _ _ h=>h) (Or.inl ⟨by rfl,tV⟩) hHeld cM ?_
     refine aN (i:=7) (N:=some 14) #[true,true,true,true,true,true,true,true,false,false,false,false,false,false,false,false,false,false,false,false,false,false,false,false,false,false,false,false,false,false,false,false,false,false,false,false,false] rfl rfl (bf dh.out aq) (fun _ _ _ h=>h) (Or.inl ⟨by rfl,cD⟩) cM ?_
     refine aN (i:=8) (N:=some 15) #[true,true,true,true,true,true,true,true,true,false,false,false,false,false,false,false,false,false,false,false,false,false,false,false,false,false,false,false,false,false,false,false,false,false,false,false,false] rfl rfl (bf dh.out aq) (fun _ _ _ h=>h) (Or.inl ⟨by rfl,cD⟩) cM ?_
     refine aN (i:=9) (N:=some 16) #[true,true,true,true,true,true,true,true,true,true,false,false,false,false,false,false,false,false,false,false,false,false,false,false,false,false,false,false,false,false,false,false,false,false,false,false,false] rfl rfl (bf dh.out aq) (fun _ _ _ h=>h) (Or.inl ⟨by rfl,cD⟩) cM ?_
     refine aN (i:=10) (N:=some 17) #[true,true,true,true,true,true,true,true,true,true,true,false,false,false,false,false,false,false,false,false,false,false,false,false,false,false,false,false,false,false,false,false,false,false,false,false,false] rfl rfl (bf dh.out aq) (fun _ _ _ h=>h) (Or.inl ⟨by rfl,cD⟩) cM ?_
     refine aN (i:=11) (N:=some 18) #[true,true,true,true,true,true,true,true,true,true,true,true,false,false,false,false,false,false,false,false,false,false,false,false,false,false,false,false,false,false,false,false,false,false,false,false,false] rfl rfl (bf dh.out aq) (fun _ _ _ h=>h) (Or.inl ⟨by rfl,cD⟩) cM ?_
     refine fL (i:=12) (N:=some 19) #[true,true,true,true,true,true,true,true,true,true,true,true,true,false,false,false,false,false,false,false,false,false,false,false,false,false,false,false,false,false,false,false,false,false,false,false,false] rfl rfl (eV dh.out rq.out aq) (fun _ _ _ h=>h) (Or.inl ⟨by rfl,tV⟩) hHeld cM ?_
     refine aN (i:=13) (N:=some 20) #[true,true,true,true,true,true,true,true,true,true,true,true,true,true,false,false,false,false,false,false,false,false,false,false,false,false,false,false,false,false,false,false,false,false,false,false,false] rfl rfl (bf dh.out aq) (fun _ _ _ h=>h) (Or.inl ⟨by rfl,cD⟩) cM ?_
     refine aN (i:=14) (N:=some 21) #[true,true,true,true,true,true,true,true,true,true,true,true,true,true,true,false,false,false,false,false,false,false,false,false,false,false,false,false,false,false,false,false,false,false,false,false,false] rfl rfl (bf dh.out aq) (fun _ _ _ h=>h) (Or.inl ⟨by rfl,cD⟩) cM ?_
     refine aN (i:=15) (N:=some 22) #[true,true,true,true,true,true,true,true,true,true,true,true,true,true,true,true,false,false,false,false,false,false,false,false,false,false,false,false,false,false,false,false,false,false,false,false,false] rfl rfl (bf dh.out aq) (fun _ _ _ h=>h) (Or.inl ⟨by rfl,cD⟩) cM ?_
     refine fL (i:=16) (N:=some 23) #[true,true,true,true,true,true,true,true,true,true,true,true,true,true,true,true,true,false,false,false,false,false,false,false,false,false,false,false,false,false,false,false,false,false,false,false,false] rfl rfl (eV dh.out rq.out aq) (fun _ _ _ h=>h) (Or.inl ⟨by rfl,tV⟩) hHeld cM ?_
     refine aN (i:=17) (N:=some 24) #[true,true,true,true,true,true,true,true,true,true,true,true,true,true,true,true,true,true,false,false,false,false,false,false,false,false,false,false,false,false,false,false,false,false,false,false,false] rfl rfl (bf dh.out aq) (fun _ _ _ h=>h) (Or.inl ⟨by rfl,cD⟩) cM ?_
     refine aN (i:=18) (N:=some 25) #[true,true,true,true,true,true,true,true,true,true,true,true,true,true,true,true,true,true,true,false,false,false,false,false,false,false,false,false,false,false,false,false,false,false,false,false,false] rfl rfl (bf dh.out aq) (fun _ _ _ h=>h) (Or.inl ⟨by rfl,cD⟩) cM ?_
     refine aN (i:=19) (N:=some 26) #[true,true,true,true,true,true,true,true,true,true,true,true,true,true,true,true,true,true,true,true,false,false,false,false,false,false,false,false,false,false,false,false,false,false,false,false,false] rfl rfl (bf dh.out aq) (fun _ _ _ h=>h) (Or.inl ⟨by rfl,cD⟩) cM ?_
     refine aN (i:=20) (N:=some 27) #[true,true,true,true,true,true,true,true,true,true,true,true,true,true,true,true,true,true,true,true,true,false,false,false,false,false,false,false,false,false,false,false,false,false,false,false,false] rfl rfl (bf dh.out aq) (fun _ _ _ h=>h) (Or.inl ⟨by rfl,cD⟩) cM ?_
     refine aN (i:=21) (N:=some 28) #[true,true,true,true,true,true,true,true,true,true,true,true,true,true,true,true,true,true,true,true,true,true,false,false,false,false,false,false,false,false,false,false,false,false,false,false,false] rfl rfl (bf dh.out aq) (fun _ _ _ h=>h) (Or.inl ⟨by rfl,cD⟩) cM ?_
     refine aN (i:=25) (N:=some 32) #[true,true,true,true,true,true,true,true,true,true,true,true,true,true,true,true,true,true,true,true,true,true,false,false,false,true,false,false,false,false,false,false,false,false,false,false,false] rfl rfl (bf dh.out aq) (fun _ _ _ h=>h) (Or.inl ⟨by rfl,cD⟩) cM ?_
     refine aN (i:=26) (N:=some 33) #[true,true,true,true,true,true,true,true,true,true,true,true,true,true,true,true,true,true,true,true,true,true,false,false,false,true,true,false,false,false,false,false,false,false,false,false,false] rfl rfl (bf dh.out aq) (fun _ _ _ h=>h) (Or.inl ⟨by rfl,cD⟩) cM ?_
     refine aN (i:=28) (N:=some 35) #[true,true,true,true,true,true,true,true,true,true,true,true,true,true,true,true,true,true,true,true,true,true,false,false,false,true,true,false,true,false,false,false,false,false,false,false,false] rfl rfl (bf dh.out aq) (fun _ _ _ h=>h) (Or.inl ⟨by rfl,cD⟩) cM ?_
     refine fL (i:=22) (N:=some 29) #[true,true,true,true,true,true,true,true,true,true,true,true,true,true,true,true,true,true,true,true,true,true,true,false,false,true,true,false,true,false,false,false,false,false,false,false,false] rfl rfl (eV dh.out rq.out aq) (fun _ _ _ h=>h) (Or.inl ⟨by rfl,tV⟩) hHeld cM ?_
     refine aN (i:=23) (N:=some 30) #[true,true,true,true,true,true,true,true,true,true,true,true,true,true,true,true,true,true,true,true,true,true,true,true,false,true,true,false,true,false,false,false,false,false,false,false,false] rfl rfl (bf dh.out aq) (fun _ _ _ h=>h) (Or.inl ⟨by rfl,cD⟩) cM ?_
     refine fL (i:=24) (N:=some 31) #[true,true,true,true,true,true,true,true,true,true,true,true,true,true,true,true,true,true,true,true,true,true,true,true,true,true,true,false,true,false,false,false,false,false,false,false,false] rfl rfl (eV dh.out rq.out aq) (fun _ _ _ h=>h) (Or.inl ⟨by rfl,tV⟩) hHeld cM ?_
     refine fL (i:=27) (N:=some 34) #[true,true,true,true,true,true,true,true,true,true,true,true,true,true,true,true,true,true,true,true,true,true,true,true,true,true,true,true,true,false,false,false,false,false,false,false,false] rfl rfl (eV dh.out rq.out aq) (fun _ _ _ h=>h) (Or.inl ⟨by rfl,tV⟩) hHeld cM ?_
     refine fL (i:=29) (N:=some 36) #[true,true,true,true,true,true,true,true,true,true,true,true,true,true,true,true,true,true,true,true,true,true,true,true,true,true,true,true,true,true,false,false,false,false,false,false,false] rfl rfl (eV dh.out rq.out aq) (fun _ _ _ h=>h) (Or.inl ⟨by rfl,tV⟩) hHeld cM ?_
     refine aN (i:=30) (N:=some 37) #[true,true,true,true,true,true,true,true,true,true,true,true,true,true,true,true,true,true,true,true,true,true,true,true,true,true,true,true,true,true,true,false,false,false,false,false,false] rfl rfl (bf dh.out aq) (fun _ _ _ h=>h) (Or.inl ⟨by rfl,cD⟩) cM ?_
     refine aN (i:=31) (N:=some 38) #[true,true,true,true,true,true,true,true,true,true,true,true,true,true,true,true,true,true,true,true,true,true,true,true,true,true,true,true,true,true,true,true,false,false,false,false,false] rfl rfl (bf dh.out aq) (fun _ _ _ h=>h) (Or.inl ⟨by rfl,cD⟩) cM ?_
     refine fL (i:=32) (N:=some 39) #[true,true,true,true,true,true,true,true,true,true,true,true,true,true,true,true,true,true,true,true,true,true,true,true,true,true,true,true,true,true,true,true,true,false,false,false,false] rfl rfl (eV dh.out rq.out aq) (fun _ _ _ h=>h) (Or.inl ⟨by rfl,tV⟩) hHeld cM ?_
     refine aN (i:=33) (N:=some 40) #[true,true,true,true,true,true,true,true,true,true,true,true,true,true,true,true,true,true,true,true,true,true,true,true,true,true,true,true,true,true,true,true,true,true,false,false,false] rfl rfl (bf dh.out aq) (fun _ _ _ h=>h) (Or.inl ⟨by rfl,cD⟩) cM ?_
     refine aN (i:=34) (N:=some 41) #[true,true,true,true,true,true,true,true,true,true,true,true,true,true,true,true,true,true,true,true,true,true,true,true,true,true,true,true,true,true,true,true,true,true,true,false,false] rfl rfl (bf dh.out aq) (fun _ _ _ h=>h) (Or.inl ⟨by rfl,cD⟩) cM ?_
     refine aN (i:=35) (N:=some 42) #[true,true,true,true,true,true,true,true,true,true,true,true,true,true,true,true,true,true,true,true,true,true,true,true,true,true,true,true,true,true,true,true,true,true,true,true,false] rfl rfl (bf dh.out aq) (fun _ _ _ h=>h) (Or.inl ⟨by rfl,cD⟩) cM ?_
     refine aN (i:=36) (N:=some 6) #[true,true,true,true,true,true,true,true,true,true,true,true,true,true,true,true,true,true,true,true,true,true,true,true,true,true,true,true,true,true,true,true,true,true,true,true,true] rfl rfl (bf dh.out aq) (fun _ _ _ h=>h) (Or.inl ⟨by rfl,cD⟩) cM ?_
     refine nv (nJ dh.out aq) ?_
     try go_wp2
     go_ret
     exact ⟨by rfl,aJ⟩
    ·rw [if_neg c12] at H
     have Fx:=beq_eq_false_iff_ne.mpr c12
     have TS:=bne_iff_ne.mpr c12
     obtain rfl:=Option.some.inj H
     go_enter Tryz.func106,Tryz.ntmps106
     try go_wp2_with (first|((with_reducible refine bp (N:=3) rfl ?_);(try (refine bV (by rfl) ?_;dsimp only));refine br ?hg (N:=3) ?hd (cs:=#[.int .i64 bg,.bool true,.slice dS cH.length dU,.string bD,.string bI,.bool bU,.slice cV bL.length cU,.slice dV cN.length dW,.int .i64 bW]) (t:=34) ?hr ?_;(case hd=>rfl);(case hg=>rfl);(case hr=>(go_simp;done));intro fo hg za bG hb;have cy:=ah.mk (bG);have PF:=ah.mk ((bF:w.heap.size≤fo));have PG:=ah.mk ((bF:w.heap.size≤fo));replace HB:=ah.mk (ay aJ hb);clear hb bG hg)|((with_reducible refine bp (N:=4) rfl ?_);(try (refine bV (by rfl) ?_;dsimp only));refine br ?hg (N:=4) ?hd (cs:=#[.int .i64 gz,.bool gF,.slice og kU.length om,.string iX,.string iN,.bool iO,.slice lU iK.length lV,.slice oo lK.length oq,.int .i64 jN]) (t:=34) ?hr ?_;(case hd=>rfl);(case hg=>rfl);(case hr=>(go_simp;done));intro je hg KV bG hb;have fR:=ah.mk (bG);have PI:=ah.mk ((bF:w.heap.size≤je));have PJ:=ah.mk ((bF:w.heap.size≤je));replace HB:=ah.mk (ay aJ hb);have xN:=ah.mk ((Dw:fo≠je));have xO:=ah.mk ((Dx:je≠fo));replace cy:=ah.mk (aA sK hb);clear hb bG hg))
     have kj:=ah.mk (iA cy.out)
     have ko:=ah.mk (iA fR.out)
     have mV:=ah.mk (fS HB.out)
     clear cy
     clear fR
     clear HB
     have cy:=kj
     have fR:=ko
     have HB:=mV
     clear kj ko mV
     refine kS (n:=37) (S:=fun w'=>w'.cell? ⟨fo,0,none⟩=some (.int .i64 bg)∧w'.cell? ⟨fo,1,none⟩=some (.bool true)∧w'.cell? ⟨fo,2,none⟩=some (.slice dS cH.length dU)∧w'.cell? ⟨fo,3,none⟩=some (.string bD)∧w'.cell? ⟨fo,4,none⟩=some (.string bI)∧w'.cell? ⟨fo,5,none⟩=some (.bool bU)∧w'.cell? ⟨fo,6,none⟩=some (.slice cV bL.length cU)∧w'.cell? ⟨fo,7,none⟩=some (.slice dV cN.length dW)∧w'.cell? ⟨fo,8,none⟩=some (.int .i64 bW)) (ds:=[]) #[false,false,false,false,false,false,false,false,false,false,false,false,false,false,false,false,false,false,false,false,false,false,false,false,false,false,false,false,false,false,false,false,false,false,false,false,false] aq (by rfl) (by rfl) ⟨(af cy.out 0).trans rfl,(af cy.out 1).trans rfl,(af cy.out 2).trans rfl,(af cy.out 3).trans rfl,(af cy.out 4).trans rfl,(af cy.out 5).trans rfl,(af cy.out 6).trans rfl,(af cy.out 7).trans rfl,(af cy.out 8).trans rfl⟩ (fun hHeld=>?_);refine kL dA.MK dA.Ee (fun dh rq=>?_)
     generalize KV.drew=BX at cy fR HB hHeld ⊢
     refine fL (i:=0) (N:=some 7) #[true,false,false,false,false,false,false,false,false,false,false,false,false,false,false,false,false,false,false,false,false,false,false,false,false,false,false,false,false,false,false,false,false,false,false,false,false] rfl rfl (eV dh.out rq.out aq) (fun _ _ _ h=>h) (Or.inl ⟨by rfl,pK⟩) hHeld cM ?_
     refine nP (i:=1) (N:=some 8) #[true,true,false,false,false,false,false,false,false,false,false,false,false,false,false,false,false,false,false,false,false,false,false,false,false,false,false,false,false,false,false,false,false,false,false,false,false] rfl rfl (jU dh.out aq) bC (fun K hK=>?_)
     refine lF Tryz.func63 aq rfl #[.agg #[.int .i64 bg,.bool true,.slice dS cH.length dU,.string bD,.string bI,.bool bU,.slice cV bL.length cU,.slice dV cN.length dW,.int .i64 bW]] (by rfl) rfl rfl dK ?_
     with_reducible refine (dc.calls bg true _ _ cH bD bI bU _ _ bL _ _ cN bW false _ ?bn ?bN ?cW ?fD ?gK ?gL A4.out).mono ?_
     (case bn=>repeat (exact (Kd.bQ mO.out HB.out)))
     (case bN=>exact mP.out)
     (case cW=>repeat (exact (Kd.bQ lQ.out HB.out)))
     (case fD=>exact mF.out)
     (case gK=>repeat (exact (Kd.bQ vY.out HB.out)))
     (case gL=>exact vZ.out)
     rintro e Rz ⟨rfl,hb⟩
     refine ⟨_,rfl,?_⟩
     have kj:=ah.mk (aA sK hb)
     have ko:=ah.mk (aA (g:=je) (o:= .cells #[.int .i64 gz,.bool gF,.slice og kU.length om,.string iX,.string iN,.bool iO,.slice lU iK.length lV,.slice oo lK.length oq,.int .i64 jN] 34 (0,0)) (by exact fR.out) hb)
     have mV:=ah.mk (ay aJ hb)
     clear cy
     clear fR
     clear HB
     have cy:=kj
     have fR:=ko
     have HB:=mV
     clear kj ko mV
     refine hK.out _ _ ⟨(af cy.out 0).trans rfl,(af cy.out 1).trans rfl,(af cy.out 2).trans rfl,(af cy.out 3).trans rfl,(af cy.out 4).trans rfl,(af cy.out 5).trans rfl,(af cy.out 6).trans rfl,(af cy.out 7).trans rfl,(af cy.out 8).trans rfl⟩ (fun hHeld=>?_)
     clear hK K
     refine ku (a':=?_) ?_ ?_
     rotate_left
     ·show Act.put _ (some 8) _=_
      simp only [Act.put,List.setIfInBounds_toArray,List.set_cons_zero,List.set_cons_succ,aV,aW]
      rfl
     refine aN (i:=2) (N:=some 9) #[true,true,true,false,false,false,false,false,false,false,false,false,false,false,false,false,false,false,false,false,false,false,false,false,false,false,false,false,false,false,false,false,false,false,false,false,false] rfl rfl (bf dh.out aq) (fun _ _ _ h=>h) (Or.inl ⟨by rfl,cD⟩) cM ?_
     refine aN (i:=3) (N:=some 10) #[true,true,true,true,false,false,false,false,false,false,false,false,false,false,false,false,false,false,false,false,false,false,false,false,false,false,false,false,false,false,false,false,false,false,false,false,false] rfl rfl (bf dh.out aq) (fun _ _ _ h=>h) (Or.inl ⟨by rfl,cD⟩) cM ?_
     refine aN (i:=4) (N:=some 11) #[true,true,true,true,true,false,false,false,false,false,false,false,false,false,false,false,false,false,false,false,false,false,false,false,false,false,false,false,false,false,false,false,false,false,false,false,false] rfl rfl (bf dh.out aq) (fun _ _ _ h=>h) (Or.inl ⟨by rfl,cD⟩) cM ?_
     refine aN (i:=6) (N:=some 13) #[true,true,true,true,true,false,true,false,false,false,false,false,false,false,false,false,false,false,false,false,false,false,false,false,false,false,false,false,false,false,false,false,false,false,false,false,false] rfl rfl (bf dh.out aq) (fun _ _ _ h=>h) (Or.inl ⟨by rfl,cD⟩) cM ?_
     refine fL (i:=5) (N:=some 12) #[true,true,true,true,true,true,true,false,false,false,false,false,false,false,false,false,false,false,false,false,false,false,false,false,false,false,false,false,false,false,false,false,false,false,false,false,false] rfl rfl (eV dh.out rq.out aq) (fun _ _ _ h=>h) (Or.inl ⟨by rfl,pK⟩) hHeld cM ?_
     refine aN (i:=7) (N:=some 14) #[true,true,true,true,true,true,true,true,false,false,false,false,false,false,false,false,false,false,false,false,false,false,false,false,false,false,false,false,false,false,false,false,false,false,false,false,false] rfl rfl (bf dh.out aq) (fun _ _ _ h=>h) (Or.inl ⟨by rfl,cD⟩) cM ?_
     refine aN (i:=8) (N:=some 15) #[true,true,true,true,true,true,true,true,true,false,false,false,false,false,false,false,false,false,false,false,false,false,false,false,false,false,false,false,false,false,false,false,false,false,false,false,false] rfl rfl (bf dh.out aq) (fun _ _ _ h=>h) (Or.inl ⟨by rfl,cD⟩) cM ?_
     refine aN (i:=9) (N:=some 16) #[true,true,true,true,true,true,true,true,true,true,false,false,false,false,false,false,false,false,false,false,false,false,false,false,false,false,false,false,false,false,false,false,false,false,false,false,false] rfl rfl (bf dh.out aq) (fun _ _ _ h=>h) (Or.inl ⟨by rfl,cD⟩) cM ?_
     refine aN (i:=10) (N:=some 17) #[true,true,true,true,true,true,true,true,true,true,true,false,false,false,false,false,false,false,false,false,false,false,false,false,false,false,false,false,false,false,false,false,false,false,false,false,false] rfl rfl (bf dh.out aq) (fun _ _ _ h=>h) (Or.inl ⟨by rfl,cD⟩) cM ?_
     refine aN (i:=11) (N:=some 18) #[true,true,true,true,true,true,true,true,true,true,true,true,false,false,false,false,false,false,false,false,false,false,false,false,false,false,false,false,false,false,false,false,false,false,false,false,false] rfl rfl (bf dh.out aq) (fun _ _ _ h=>h) (Or.inl ⟨by rfl,cD⟩) cM ?_
     refine fL (i:=12) (N:=some 19) #[true,true,true,true,true,true,true,true,true,true,true,true,true,false,false,false,false,false,false,false,false,false,false,false,false,false,false,false,false,false,false,false,false,false,false,false,false] rfl rfl (eV dh.out rq.out aq) (fun _ _ _ h=>h) (Or.inl ⟨by rfl,pK⟩) hHeld cM ?_
     refine aN (i:=13) (N:=some 20) #[true,true,true,true,true,true,true,true,true,true,true,true,true,true,false,false,false,false,false,false,false,false,false,false,false,false,false,false,false,false,false,false,false,false,false,false,false] rfl rfl (bf dh.out aq) (fun _ _ _ h=>h) (Or.inl ⟨by rfl,cD⟩) cM ?_
     refine aN (i:=14) (N:=some 21) #[true,true,true,true,true,true,true,true,true,true,true,true,true,true,true,false,false,false,false,false,false,false,false,false,false,false,false,false,false,false,false,false,false,false,false,false,false] rfl rfl (bf dh.out aq) (fun _ _ _ h=>h) (Or.inl ⟨by rfl,cD⟩) cM ?_
     refine aN (i:=15) (N:=some 22) #[true,true,true,true,true,true,true,true,true,true,true,true,true,true,true,true,false,false,false,false,false,false,false,false,false,false,false,false,false,false,false,false,false,false,false,false,false] rfl rfl (bf dh.out aq) (fun _ _ _ h=>h) (Or.inl ⟨by rfl,cD⟩) cM ?_
     refine fL (i:=16) (N:=some 23) #[true,true,true,true,true,true,true,true,true,true,true,true,true,true,true,true,true,false,false,false,false,false,false,false,false,false,false,false,false,false,false,false,false,false,false,false,false] rfl rfl (eV dh.out rq.out aq) (fun _ _ _ h=>h) (Or.inl ⟨by rfl,pK⟩) hHeld cM ?_
     refine aN (i:=17) (N:=some 24) #[true,true,true,true,true,true,true,true,true,true,true,true,true,true,true,true,true,true,false,false,false,false,false,false,false,false,false,false,false,false,false,false,false,false,false,false,false] rfl rfl (bf dh.out aq) (fun _ _ _ h=>h) (Or.inl ⟨by rfl,cD⟩) cM ?_
     refine aN (i:=18) (N:=some 25) #[true,true,true,true,true,true,true,true,true,true,true,true,true,true,true,true,true,true,true,false,false,false,false,false,false,false,false,false,false,false,false,false,false,false,false,false,false] rfl rfl (bf dh.out aq) (fun _ _ _ h=>h) (Or.inl ⟨by rfl,cD⟩) cM ?_
     refine aN (i:=19) (N:=some 26) #[true,true,true,true,true,true,true,true,true,true,true,true,true,true,true,true,true,true,true,true,false,false,false,false,false,false,false,false,false,false,false,false,false,false,false,false,false] rfl rfl (bf dh.out aq) (fun _ _ _ h=>h) (Or.inl ⟨by rfl,cD⟩) cM ?_
     refine aN (i:=20) (N:=some 27) #[true,true,true,true,true,true,true,true,true,true,true,true,true,true,true,true,true,true,true,true,true,false,false,false,false,false,false,false,false,false,false,false,false,false,false,false,false] rfl rfl (bf dh.out aq) (fun _ _ _ h=>h) (Or.inl ⟨by rfl,cD⟩) cM ?_
     refine aN (i:=21) (N:=some 28) (v:=undef) (a':=?_) #[true,true,true,true,true,true,true,true,true,true,true,true,true,true,true,true,true,true,true,true,true,true,false,false,false,false,false,false,false,false,false,false,false,false,false,false,false] rfl rfl (bf dh.out aq) (fun _ _ _ h=>h) (Or.inr ⟨by rfl,rfl⟩) ?_ ?_
     rotate_left
     ·simp only [Act.put,List.setIfInBounds_toArray,List.set_cons_zero,List.set_cons_succ,aV,aW]
      rfl
     refine aN (i:=22) (N:=some 29) (v:=undef) (a':=?_) #[true,true,true,true,true,true,true,true,true,true,true,true,true,true,true,true,true,true,true,true,true,true,true,false,false,false,false,false,false,false,false,false,false,false,false,false,false] rfl rfl (bf dh.out aq) (fun _ _ _ h=>h) (Or.inr ⟨by rfl,rfl⟩) ?_ ?_
     rotate_left
     ·simp only [Act.put,List.setIfInBounds_toArray,List.set_cons_zero,List.set_cons_succ,aV,aW]
      rfl
     refine aN (i:=23) (N:=some 30) (v:=undef) (a':=?_) #[true,true,true,true,true,true,true,true,true,true,true,true,true,true,true,true,true,true,true,true,true,true,true,true,false,false,false,false,false,false,false,false,false,false,false,false,false] rfl rfl (bf dh.out aq) (fun _ _ _ h=>h) (Or.inr ⟨by rfl,rfl⟩) ?_ ?_
     rotate_left
     ·simp only [Act.put,List.setIfInBounds_toArray,List.set_cons_zero,List.set_cons_succ,aV,aW]
      rfl
     refine aN (i:=24) (N:=some 31) (v:=undef) (a':=?_) #[true,true,true,true,true,true,true,true,true,true,true,true,true,true,true,true,true,true,true,true,true,true,true,true,true,false,false,false,false,false,false,false,false,false,false,false,false] rfl rfl (bf dh.out aq) (fun _ _ _ h=>h) (Or.inr ⟨by rfl,rfl⟩) ?_ ?_
     rotate_left
     ·simp only [Act.put,List.setIfInBounds_toArray,List.set_cons_zero,List.set_cons_succ,aV,aW]
      rfl
     refine aN (i:=25) (N:=some 32) (v:=undef) (a':=?_) #[true,true,true,true,true,true,true,true,true,true,true,true,true,true,true,true,true,true,true,true,true,true,true,true,true,true,false,false,false,false,false,false,false,false,false,false,false] rfl rfl (bf dh.out aq) (fun _ _ _ h=>h) (Or.inr ⟨by rfl,rfl⟩) ?_ ?_
     rotate_left
     ·simp only [Act.put,List.setIfInBounds_toArray,List.set_cons_zero,List.set_cons_succ,aV,aW]
      rfl
     refine aN (i:=26) (N:=some 33) (v:=undef) (a':=?_) #[true,true,true,true,true,true,true,true,true,true,true,true,true,true,true,true,true,true,true,true,true,true,true,true,true,true,true,false,false,false,false,false,false,false,false,false,false] rfl rfl (bf dh.out aq) (fun _ _ _ h=>h) (Or.inr ⟨by rfl,rfl⟩) ?_ ?_
     rotate_left
     ·simp only [Act.put,List.setIfInBounds_toArray,List.set_cons_zero,List.set_cons_succ,aV,aW]
      rfl
     refine aN (i:=27) (N:=some 34) (v:=undef) (a':=?_) #[true,true,true,true,true,true,true,true,true,true,true,true,true,true,true,true,true,true,true,true,true,true,true,true,true,true,true,true,false,false,false,false,false,false,false,false,false] rfl rfl (bf dh.out aq) (fun _ _ _ h=>h) (Or.inr ⟨by rfl,rfl⟩) ?_ ?_
     rotate_left
     ·simp only [Act.put,List.setIfInBounds_toArray,List.set_cons_zero,List.set_cons_succ,aV,aW]
      rfl
     refine aN (i:=28) (N:=some 35) (v:=undef) (a':=?_) #[true,true,true,true,true,true,true,true,true,true,true,true,true,true,true,true,true,true,true,true,true,true,true,true,true,true,true,true,true,false,false,false,false,false,false,false,false] rfl rfl (bf dh.out aq) (fun _ _ _ h=>h) (Or.inr ⟨by rfl,rfl⟩) ?_ ?_
     rotate_left
     ·simp only [Act.put,List.setIfInBounds_toArray,List.set_cons_zero,List.set_cons_succ,aV,aW]
      rfl
     refine aN (i:=29) (N:=some 36) (v:=undef) (a':=?_) #[true,true,true,true,true,true,true,true,true,true,true,true,true,true,true,true,true,true,true,true,true,true,true,true,true,true,true,true,true,true,false,false,false,false,false,false,false] rfl rfl (bf dh.out aq) (fun _ _ _ h=>h) (Or.inr ⟨by rfl,rfl⟩) ?_ ?_
     rotate_left
     ·simp only [Act.put,List.setIfInBounds_toArray,List.set_cons_zero,List.set_cons_succ,aV,aW]
      rfl
     refine aN (i:=30) (N:=some 37) (v:=undef) (a':=?_) #[true,true,true,true,true,true,true,true,true,true,true,true,true,true,true,true,true,true,true,true,true,true,true,true,true,true,true,true,true,true,true,false,false,false,false,false,false] rfl rfl (bf dh.out aq) (fun _ _ _ h=>h) (Or.inr ⟨by rfl,rfl⟩) ?_ ?_
     rotate_left
     ·simp only [Act.put,List.setIfInBounds_toArray,List.set_cons_zero,List.set_cons_succ,aV,aW]
      rfl
     refine aN (i:=31) (N:=some 38) (v:=undef) (a':=?_) #[true,true,true,true,true,true,true,true,true,true,true,true,true,true,true,true,true,true,true,true,true,true,true,true,true,true,true,true,true,true,true,true,false,false,false,false,false] rfl rfl (bf dh.out aq) (fun _ _ _ h=>h) (Or.inr ⟨by rfl,rfl⟩) ?_ ?_
     rotate_left
     ·simp only [Act.put,List.setIfInBounds_toArray,List.set_cons_zero,List.set_cons_succ,aV,aW]
      rfl
     refine aN (i:=32) (N:=some 39) (v:=undef) (a':=?_) #[true,true,true,true,true,true,true,true,true,true,true,true,true,true,true,true,true,true,true,true,true,true,true,true,true,true,true,true,true,true,true,true,true,false,false,false,false] rfl rfl (bf dh.out aq) (fun _ _ _ h=>h) (Or.inr ⟨by rfl,rfl⟩) ?_ ?_
     rotate_left
     ·simp only [Act.put,List.setIfInBounds_toArray,List.set_cons_zero,List.set_cons_succ,aV,aW]
      rfl
     refine aN (i:=33) (N:=some 40) (v:=undef) (a':=?_) #[true,true,true,true,true,true,true,true,true,true,true,true,true,true,true,true,true,true,true,true,true,true,true,true,true,true,true,true,true,true,true,true,true,true,false,false,false] rfl rfl (bf dh.out aq) (fun _ _ _ h=>h) (Or.inr ⟨by rfl,rfl⟩) ?_ ?_
     rotate_left
     ·simp only [Act.put,List.setIfInBounds_toArray,List.set_cons_zero,List.set_cons_succ,aV,aW]
      rfl
     refine aN (i:=34) (N:=some 41) (v:=undef) (a':=?_) #[true,true,true,true,true,true,true,true,true,true,true,true,true,true,true,true,true,true,true,true,true,true,true,true,true,true,true,true,true,true,true,true,true,true,true,false,false] rfl rfl (bf dh.out aq) (fun _ _ _ h=>h) (Or.inr ⟨by rfl,rfl⟩) ?_ ?_
     rotate_left
     ·simp only [Act.put,List.setIfInBounds_toArray,List.set_cons_zero,List.set_cons_succ,aV,aW]
      rfl
     refine aN (i:=35) (N:=some 42) #[true,true,true,true,true,true,true,true,true,true,true,true,true,true,true,true,true,true,true,true,true,true,true,true,true,true,true,true,true,true,true,true,true,true,true,true,false] rfl rfl (bf dh.out aq) (fun _ _ _ h=>h) (Or.inl ⟨by rfl,cD⟩) cM ?_
     refine aN (i:=36) (N:=some 6) #[true,true,true,true,true,true,true,true,true,true,true,true,true,true,true,true,true,true,true,true,true,true,true,true,true,true,true,true,true,true,true,true,true,true,true,true,true] rfl rfl (bf dh.out aq) (fun _ _ _ h=>h) (Or.inl ⟨by rfl,cD⟩) cM ?_
     refine nv (nJ dh.out aq) ?_
     try go_wp2
     go_ret
     exact ⟨by rfl,aJ⟩
   ·replace c11:=Bool.eq_false_iff.mpr c11
    subst c11
    rw [if_neg (show ¬ (false=true) by decide)] at H
    obtain rfl:=Option.some.inj H
    go_enter Tryz.func106,Tryz.ntmps106
    try go_wp2_with (first|((with_reducible refine bp (N:=3) rfl ?_);(try (refine bV (by rfl) ?_;dsimp only));refine br ?hg (N:=3) ?hd (cs:=#[.int .i64 bg,.bool false,.slice dS cH.length dU,.string bD,.string bI,.bool bU,.slice cV bL.length cU,.slice dV cN.length dW,.int .i64 bW]) (t:=34) ?hr ?_;(case hd=>rfl);(case hg=>rfl);(case hr=>(go_simp;done));intro fo hg Vs bG hb;have cy:=ah.mk (bG);have PF:=ah.mk ((bF:w.heap.size≤fo));have PG:=ah.mk ((bF:w.heap.size≤fo));replace HB:=ah.mk (ay aJ hb);clear hb bG hg)|((with_reducible refine bp (N:=4) rfl ?_);(try (refine bV (by rfl) ?_;dsimp only));refine br ?hg (N:=4) ?hd (cs:=#[.int .i64 gz,.bool gF,.slice og kU.length om,.string iX,.string iN,.bool iO,.slice lU iK.length lV,.slice oo lK.length oq,.int .i64 jN]) (t:=34) ?hr ?_;(case hd=>rfl);(case hg=>rfl);(case hr=>(go_simp;done));intro je hg sP bG hb;have fR:=ah.mk (bG);have PI:=ah.mk ((bF:w.heap.size≤je));have PJ:=ah.mk ((bF:w.heap.size≤je));replace HB:=ah.mk (ay aJ hb);have xN:=ah.mk ((Dw:fo≠je));have xO:=ah.mk ((Dx:je≠fo));replace cy:=ah.mk (aA sK hb);clear hb bG hg))
    have kj:=ah.mk (iA cy.out)
    have ko:=ah.mk (iA fR.out)
    have mV:=ah.mk (fS HB.out)
    clear cy
    clear fR
    clear HB
    have cy:=kj
    have fR:=ko
    have HB:=mV
    clear kj ko mV
    refine kS (n:=37) (S:=fun w'=>w'.cell? ⟨fo,0,none⟩=some (.int .i64 bg)∧w'.cell? ⟨fo,1,none⟩=some (.bool false)∧w'.cell? ⟨fo,2,none⟩=some (.slice dS cH.length dU)∧w'.cell? ⟨fo,3,none⟩=some (.string bD)∧w'.cell? ⟨fo,4,none⟩=some (.string bI)∧w'.cell? ⟨fo,5,none⟩=some (.bool bU)∧w'.cell? ⟨fo,6,none⟩=some (.slice cV bL.length cU)∧w'.cell? ⟨fo,7,none⟩=some (.slice dV cN.length dW)∧w'.cell? ⟨fo,8,none⟩=some (.int .i64 bW)) (ds:=[]) #[false,false,false,false,false,false,false,false,false,false,false,false,false,false,false,false,false,false,false,false,false,false,false,false,false,false,false,false,false,false,false,false,false,false,false,false,false] aq (by rfl) (by rfl) ⟨(af cy.out 0).trans rfl,(af cy.out 1).trans rfl,(af cy.out 2).trans rfl,(af cy.out 3).trans rfl,(af cy.out 4).trans rfl,(af cy.out 5).trans rfl,(af cy.out 6).trans rfl,(af cy.out 7).trans rfl,(af cy.out 8).trans rfl⟩ (fun hHeld=>?_);refine kL dA.MK dA.Ee (fun dh rq=>?_)
    generalize sP.drew=yP at cy fR HB hHeld ⊢
    refine fL (i:=0) (N:=some 7) #[true,false,false,false,false,false,false,false,false,false,false,false,false,false,false,false,false,false,false,false,false,false,false,false,false,false,false,false,false,false,false,false,false,false,false,false,false] rfl rfl (eV dh.out rq.out aq) (fun _ _ _ h=>h) (Or.inl ⟨by rfl,pK⟩) hHeld cM ?_
    refine nP (i:=1) (N:=some 8) #[true,true,false,false,false,false,false,false,false,false,false,false,false,false,false,false,false,false,false,false,false,false,false,false,false,false,false,false,false,false,false,false,false,false,false,false,false] rfl rfl (jU dh.out aq) bC (fun K hK=>?_)
    refine lF Tryz.func63 aq rfl #[.agg #[.int .i64 bg,.bool false,.slice dS cH.length dU,.string bD,.string bI,.bool bU,.slice cV bL.length cU,.slice dV cN.length dW,.int .i64 bW]] (by rfl) rfl rfl dK ?_
    with_reducible refine (dc.calls bg false _ _ cH bD bI bU _ _ bL _ _ cN bW false _ ?bn ?bN ?cW ?fD ?gK ?gL A4.out).mono ?_
    (case bn=>repeat (exact (Kd.bQ mO.out HB.out)))
    (case bN=>exact mP.out)
    (case cW=>repeat (exact (Kd.bQ lQ.out HB.out)))
    (case fD=>exact mF.out)
    (case gK=>repeat (exact (Kd.bQ vY.out HB.out)))
    (case gL=>exact vZ.out)
    rintro e SF ⟨rfl,hb⟩
    refine ⟨_,rfl,?_⟩
    have kj:=ah.mk (aA sK hb)
    have ko:=ah.mk (aA (g:=je) (o:= .cells #[.int .i64 gz,.bool gF,.slice og kU.length om,.string iX,.string iN,.bool iO,.slice lU iK.length lV,.slice oo lK.length oq,.int .i64 jN] 34 (0,0)) (by exact fR.out) hb)
    have mV:=ah.mk (ay aJ hb)
    clear cy
    clear fR
    clear HB
    have cy:=kj
    have fR:=ko
    have HB:=mV
    clear kj ko mV
    refine hK.out _ _ ⟨(af cy.out 0).trans rfl,(af cy.out 1).trans rfl,(af cy.out 2).trans rfl,(af cy.out 3).trans rfl,(af cy.out 4).trans rfl,(af cy.out 5).trans rfl,(af cy.out 6).trans rfl,(af cy.out 7).trans rfl,(af cy.out 8).trans rfl⟩ (fun hHeld=>?_)
    clear hK K
    refine ku (a':=?_) ?_ ?_
    rotate_left
    ·show Act.put _ (some 8) _=_
     simp only [Act.put,List.setIfInBounds_toArray,List.set_cons_zero,List.set_cons_succ,aV,aW]
     rfl
    refine aN (i:=2) (N:=some 9) #[true,true,true,false,false,false,false,false,false,false,false,false,false,false,false,false,false,false,false,false,false,false,false,false,false,false,false,false,false,false,false,false,false,false,false,false,false] rfl rfl (bf dh.out aq) (fun _ _ _ h=>h) (Or.inl ⟨by rfl,cD⟩) cM ?_
    refine aN (i:=3) (N:=some 10) #[true,true,true,true,false,false,false,false,false,false,false,false,false,false,false,false,false,false,false,false,false,false,false,false,false,false,false,false,false,false,false,false,false,false,false,false,false] rfl rfl (bf dh.out aq) (fun _ _ _ h=>h) (Or.inl ⟨by rfl,cD⟩) cM ?_
    refine aN (i:=4) (N:=some 11) #[true,true,true,true,true,false,false,false,false,false,false,false,false,false,false,false,false,false,false,false,false,false,false,false,false,false,false,false,false,false,false,false,false,false,false,false,false] rfl rfl (bf dh.out aq) (fun _ _ _ h=>h) (Or.inl ⟨by rfl,cD⟩) cM ?_
    refine aN (i:=6) (N:=some 13) #[true,true,true,true,true,false,true,false,false,false,false,false,false,false,false,false,false,false,false,false,false,false,false,false,false,false,false,false,false,false,false,false,false,false,false,false,false] rfl rfl (bf dh.out aq) (fun _ _ _ h=>h) (Or.inl ⟨by rfl,cD⟩) cM ?_
    refine fL (i:=5) (N:=some 12) #[true,true,true,true,true,true,true,false,false,false,false,false,false,false,false,false,false,false,false,false,false,false,false,false,false,false,false,false,false,false,false,false,false,false,false,false,false] rfl rfl (eV dh.out rq.out aq) (fun _ _ _ h=>h) (Or.inl ⟨by rfl,pK⟩) hHeld cM ?_
    refine aN (i:=7) (N:=some 14) #[true,true,true,true,true,true,true,true,false,false,false,false,false,false,false,false,false,false,false,false,false,false,false,false,false,false,false,false,false,false,false,false,false,false,false,false,false] rfl rfl (bf dh.out aq) (fun _ _ _ h=>h) (Or.inl ⟨by rfl,cD⟩) cM ?_
    refine aN (i:=8) (N:=some 15) #[true,true,true,true,true,true,true,true,true,false,false,false,false,false,false,false,false,false,false,false,false,false,false,false,false,false,false,false,false,false,false,false,false,false,false,false,false] rfl rfl (bf dh.out aq) (fun _ _ _ h=>h) (Or.inl ⟨by rfl,cD⟩) cM ?_
    refine aN (i:=9) (N:=some 16) #[true,true,true,true,true,true,true,true,true,true,false,false,false,false,false,false,false,false,false,false,false,false,false,false,false,false,false,false,false,false,false,false,false,false,false,false,false] rfl rfl (bf dh.out aq) (fun _ _ _ h=>h) (Or.inl ⟨by rfl,cD⟩) cM ?_
    refine aN (i:=10) (N:=some 17) #[true,true,true,true,true,true,true,true,true,true,true,false,false,false,false,false,false,false,false,false,false,false,false,false,false,false,false,false,false,false,false,false,false,false,false,false,false] rfl rfl (bf dh.out aq) (fun _ _ _ h=>h) (Or.inl ⟨by rfl,cD⟩) cM ?_
    refine aN (i:=11) (N:=some 18) #[true,true,true,true,true,true,true,true,true,true,true,true,false,false,false,false,false,false,false,false,false,false,false,false,false,false,false,false,false,false,false,false,false,false,false,false,false] rfl rfl (bf dh.out aq) (fun _ _ _ h=>h) (Or.inl ⟨by rfl,cD⟩) cM ?_
    refine fL (i:=12) (N:=some 19) #[true,true,true,true,true,true,true,true,true,true,true,true,true,false,false,false,false,false,false,false,false,false,false,false,false,false,false,false,false,false,false,false,false,false,false,false,false] rfl rfl (eV dh.out rq.out aq) (fun _ _ _ h=>h) (Or.inl ⟨by rfl,pK⟩) hHeld cM ?_
    refine aN (i:=13) (N:=some 20) #[true,true,true,true,true,true,true,true,true,true,true,true,true,true,false,false,false,false,false,false,false,false,false,false,false,false,false,false,false,false,false,false,false,false,false,false,false] rfl rfl (bf dh.out aq) (fun _ _ _ h=>h) (Or.inl ⟨by rfl,cD⟩) cM ?_
    refine aN (i:=14) (N:=some 21) #[true,true,true,true,true,true,true,true,true,true,true,true,true,true,true,false,false,false,false,false,false,false,false,false,false,false,false,false,false,false,false,false,false,false,false,false,false] rfl rfl (bf dh.out aq) (fun _ _ _ h=>h) (Or.inl ⟨by rfl,cD⟩) cM ?_
    refine aN (i:=15) (N:=some 22) (v:=undef) (a':=?_) #[true,true,true,true,true,true,true,true,true,true,true,true,true,true,true,true,false,false,false,false,false,false,false,false,false,false,false,false,false,false,false,false,false,false,false,false,false] rfl rfl (bf dh.out aq) (fun _ _ _ h=>h) (Or.inr ⟨by rfl,rfl⟩) ?_ ?_
    rotate_left
    ·simp only [Act.put,List.setIfInBounds_toArray,List.set_cons_zero,List.set_cons_succ,aV,aW]
     rfl
    refine aN (i:=16) (N:=some 23) (v:=undef) (a':=?_) #[true,true,true,true,true,true,true,true,true,true,true,true,true,true,true,true,true,false,false,false,false,false,false,false,false,false,false,false,false,false,false,false,false,false,false,false,false] rfl rfl (bf dh.out aq) (fun _ _ _ h=>h) (Or.inr ⟨by rfl,rfl⟩) ?_ ?_
    rotate_left
    ·simp only [Act.put,List.setIfInBounds_toArray,List.set_cons_zero,List.set_cons_succ,aV,aW]
     rfl
    refine aN (i:=17) (N:=some 24) (v:=undef) (a':=?_) #[true,true,true,true,true,true,true,true,true,true,true,true,true,true,true,true,true,true,false,false,false,false,false,false,false,false,false,false,false,false,false,false,false,false,false,false,false] rfl rfl (bf dh.out aq) (fun _ _ _ h=>h) (Or.inr ⟨by rfl,rfl⟩) ?_ ?_
    rotate_left
    ·simp only [Act.put,List.setIfInBounds_toArray,List.set_cons_zero,List.set_cons_succ,aV,aW]
     rfl
    refine aN (i:=18) (N:=some 25) (v:=undef) (a':=?_) #[true,true,true,true,true,true,true,true,true,true,true,true,true,true,true,true,true,true,true,false,false,false,false,false,false,false,false,false,false,false,false,false,false,false,false,false,false] rfl rfl (bf dh.out aq) (fun _ _ _ h=>h) (Or.inr ⟨by rfl,rfl⟩) ?_ ?_
    rotate_left
    ·simp only [Act.put,List.setIfInBounds_toArray,List.set_cons_zero,List.set_cons_succ,aV,aW]
     rfl
    refine aN (i:=19) (N:=some 26) #[true,true,true,true,true,true,true,true,true,true,true,true,true,true,true,true,true,true,true,true,false,false,false,false,false,false,false,false,false,false,false,false,false,false,false,false,false] rfl rfl (bf dh.out aq) (fun _ _ _ h=>h) (Or.inl ⟨by rfl,cD⟩) cM ?_
    refine aN (i:=20) (N:=some 27) #[true,true,true,true,true,true,true,true,true,true,true,true,true,true,true,true,true,true,true,true,true,false,false,false,false,false,false,false,false,false,false,false,false,false,false,false,false] rfl rfl (bf dh.out aq) (fun _ _ _ h=>h) (Or.inl ⟨by rfl,cD⟩) cM ?_
    refine aN (i:=21) (N:=some 28) (v:=undef) (a':=?_) #[true,true,true,true,true,true,true,true,true,true,true,true,true,true,true,true,true,true,true,true,true,true,false,false,false,false,false,false,false,false,false,false,false,false,false,false,false] rfl rfl (bf dh.out aq) (fun _ _ _ h=>h) (Or.inr ⟨by rfl,rfl⟩) ?_ ?_
    rotate_left
    ·simp only [Act.put,List.setIfInBounds_toArray,List.set_cons_zero,List.set_cons_succ,aV,aW]
     rfl
    refine aN (i:=22) (N:=some 29) (v:=undef) (a':=?_) #[true,true,true,true,true,true,true,true,true,true,true,true,true,true,true,true,true,true,true,true,true,true,true,false,false,false,false,false,false,false,false,false,false,false,false,false,false] rfl rfl (bf dh.out aq) (fun _ _ _ h=>h) (Or.inr ⟨by rfl,rfl⟩) ?_ ?_
    rotate_left
    ·simp only [Act.put,List.setIfInBounds_toArray,List.set_cons_zero,List.set_cons_succ,aV,aW]
     rfl
    refine aN (i:=23) (N:=some 30) (v:=undef) (a':=?_) #[true,true,true,true,true,true,true,true,true,true,true,true,true,true,true,true,true,true,true,true,true,true,true,true,false,false,false,false,false,false,false,false,false,false,false,false,false] rfl rfl (bf dh.out aq) (fun _ _ _ h=>h) (Or.inr ⟨by rfl,rfl⟩) ?_ ?_
    rotate_left
    ·simp only [Act.put,List.setIfInBounds_toArray,List.set_cons_zero,List.set_cons_succ,aV,aW]
     rfl
    refine aN (i:=24) (N:=some 31) (v:=undef) (a':=?_) #[true,true,true,true,true,true,true,true,true,true,true,true,true,true,true,true,true,true,true,true,true,true,true,true,true,false,false,false,false,false,false,false,false,false,false,false,false] rfl rfl (bf dh.out aq) (fun _ _ _ h=>h) (Or.inr ⟨by rfl,rfl⟩) ?_ ?_
    rotate_left
    ·simp only [Act.put,List.setIfInBounds_toArray,List.set_cons_zero,List.set_cons_succ,aV,aW]
     rfl
    refine aN (i:=25) (N:=some 32) (v:=undef) (a':=?_) #[true,true,true,true,true,true,true,true,true,true,true,true,true,true,true,true,true,true,true,true,true,true,true,true,true,true,false,false,false,false,false,false,false,false,false,false,false] rfl rfl (bf dh.out aq) (fun _ _ _ h=>h) (Or.inr ⟨by rfl,rfl⟩) ?_ ?_
    rotate_left
    ·simp only [Act.put,List.setIfInBounds_toArray,List.set_cons_zero,List.set_cons_succ,aV,aW]
     rfl
    refine aN (i:=26) (N:=some 33) (v:=undef) (a':=?_) #[true,true,true,true,true,true,true,true,true,true,true,true,true,true,true,true,true,true,true,true,true,true,true,true,true,true,true,false,false,false,false,false,false,false,false,false,false] rfl rfl (bf dh.out aq) (fun _ _ _ h=>h) (Or.inr ⟨by rfl,rfl⟩) ?_ ?_
    rotate_left
    ·simp only [Act.put,List.setIfInBounds_toArray,List.set_cons_zero,List.set_cons_succ,aV,aW]
     rfl
    refine aN (i:=27) (N:=some 34) (v:=undef) (a':=?_) #[true,true,true,true,true,true,true,true,true,true,true,true,true,true,true,true,true,true,true,true,true,true,true,true,true,true,true,true,false,false,false,false,false,false,false,false,false] rfl rfl (bf dh.out aq) (fun _ _ _ h=>h) (Or.inr ⟨by rfl,rfl⟩) ?_ ?_
    rotate_left
    ·simp only [Act.put,List.setIfInBounds_toArray,List.set_cons_zero,List.set_cons_succ,aV,aW]
     rfl
    refine aN (i:=28) (N:=some 35) (v:=undef) (a':=?_) #[true,true,true,true,true,true,true,true,true,true,true,true,true,true,true,true,true,true,true,true,true,true,true,true,true,true,true,true,true,false,false,false,false,false,false,false,false] rfl rfl (bf dh.out aq) (fun _ _ _ h=>h) (Or.inr ⟨by rfl,rfl⟩) ?_ ?_
    rotate_left
    ·simp only [Act.put,List.setIfInBounds_toArray,List.set_cons_zero,List.set_cons_succ,aV,aW]
     rfl
    refine aN (i:=29) (N:=some 36) (v:=undef) (a':=?_) #[true,true,true,true,true,true,true,true,true,true,true,true,true,true,true,true,true,true,true,true,true,true,true,true,true,true,true,true,true,true,false,false,false,false,false,false,false] rfl rfl (bf dh.out aq) (fun _ _ _ h=>h) (Or.inr ⟨by rfl,rfl⟩) ?_ ?_
    rotate_left
    ·simp only [Act.put,List.setIfInBounds_toArray,List.set_cons_zero,List.set_cons_succ,aV,aW]
     rfl
    refine aN (i:=30) (N:=some 37) (v:=undef) (a':=?_) #[true,true,true,true,true,true,true,true,true,true,true,true,true,true,true,true,true,true,true,true,true,true,true,true,true,true,true,true,true,true,true,false,false,false,false,false,false] rfl rfl (bf dh.out aq) (fun _ _ _ h=>h) (Or.inr ⟨by rfl,rfl⟩) ?_ ?_
    rotate_left
    ·simp only [Act.put,List.setIfInBounds_toArray,List.set_cons_zero,List.set_cons_succ,aV,aW]
     rfl
    refine aN (i:=31) (N:=some 38) (v:=undef) (a':=?_) #[true,true,true,true,true,true,true,true,true,true,true,true,true,true,true,true,true,true,true,true,true,true,true,true,true,true,true,true,true,true,true,true,false,false,false,false,false] rfl rfl (bf dh.out aq) (fun _ _ _ h=>h) (Or.inr ⟨by rfl,rfl⟩) ?_ ?_
    rotate_left
    ·simp only [Act.put,List.setIfInBounds_toArray,List.set_cons_zero,List.set_cons_succ,aV,aW]
     rfl
    refine aN (i:=32) (N:=some 39) (v:=undef) (a':=?_) #[true,true,true,true,true,true,true,true,true,true,true,true,true,true,true,true,true,true,true,true,true,true,true,true,true,true,true,true,true,true,true,true,true,false,false,false,false] rfl rfl (bf dh.out aq) (fun _ _ _ h=>h) (Or.inr ⟨by rfl,rfl⟩) ?_ ?_
    rotate_left
    ·simp only [Act.put,List.setIfInBounds_toArray,List.set_cons_zero,List.set_cons_succ,aV,aW]
     rfl
    refine aN (i:=33) (N:=some 40) (v:=undef) (a':=?_) #[true,true,true,true,true,true,true,true,true,true,true,true,true,true,true,true,true,true,true,true,true,true,true,true,true,true,true,true,true,true,true,true,true,true,false,false,false] rfl rfl (bf dh.out aq) (fun _ _ _ h=>h) (Or.inr ⟨by rfl,rfl⟩) ?_ ?_
    rotate_left
    ·simp only [Act.put,List.setIfInBounds_toArray,List.set_cons_zero,List.set_cons_succ,aV,aW]
     rfl
    refine aN (i:=34) (N:=some 41) (v:=undef) (a':=?_) #[true,true,true,true,true,true,true,true,true,true,true,true,true,true,true,true,true,true,true,true,true,true,true,true,true,true,true,true,true,true,true,true,true,true,true,false,false] rfl rfl (bf dh.out aq) (fun _ _ _ h=>h) (Or.inr ⟨by rfl,rfl⟩) ?_ ?_
    rotate_left
    ·simp only [Act.put,List.setIfInBounds_toArray,List.set_cons_zero,List.set_cons_succ,aV,aW]
     rfl
    refine aN (i:=35) (N:=some 42) #[true,true,true,true,true,true,true,true,true,true,true,true,true,true,true,true,true,true,true,true,true,true,true,true,true,true,true,true,true,true,true,true,true,true,true,true,false] rfl rfl (bf dh.out aq) (fun _ _ _ h=>h) (Or.inl ⟨by rfl,cD⟩) cM ?_
    refine aN (i:=36) (N:=some 6) #[true,true,true,true,true,true,true,true,true,true,true,true,true,true,true,true,true,true,true,true,true,true,true,true,true,true,true,true,true,true,true,true,true,true,true,true,true] rfl rfl (bf dh.out aq) (fun _ _ _ h=>h) (Or.inl ⟨by rfl,cD⟩) cM ?_
    refine nv (nJ dh.out aq) ?_
    try go_wp2
    go_ret
    exact ⟨by rfl,aJ⟩
  ·rw [if_neg c10] at H
   have BG:decide (a2≤bg)=false:=decide_eq_false c10
   clear c10
   obtain rfl:=Option.some.inj H
   go_enter Tryz.func106,Tryz.ntmps106
   try go_wp2_with (first|((with_reducible refine bp (N:=3) rfl ?_);(try (refine bV (by rfl) ?_;dsimp only));refine br ?hg (N:=3) ?hd (cs:=#[.int .i64 bg,.bool bP,.slice dS cH.length dU,.string bD,.string bI,.bool bU,.slice cV bL.length cU,.slice dV cN.length dW,.int .i64 bW]) (t:=34) ?hr ?_;(case hd=>rfl);(case hg=>rfl);(case hr=>(go_simp;done));intro fo hg LU bG hb;have cy:=ah.mk (bG);have PF:=ah.mk ((bF:w.heap.size≤fo));have PG:=ah.mk ((bF:w.heap.size≤fo));replace HB:=ah.mk (ay aJ hb);clear hb bG hg)|((with_reducible refine bp (N:=4) rfl ?_);(try (refine bV (by rfl) ?_;dsimp only));refine br ?hg (N:=4) ?hd (cs:=#[.int .i64 gz,.bool gF,.slice og kU.length om,.string iX,.string iN,.bool iO,.slice lU iK.length lV,.slice oo lK.length oq,.int .i64 jN]) (t:=34) ?hr ?_;(case hd=>rfl);(case hg=>rfl);(case hr=>(go_simp;done));intro je hg RA bG hb;have fR:=ah.mk (bG);have PI:=ah.mk ((bF:w.heap.size≤je));have PJ:=ah.mk ((bF:w.heap.size≤je));replace HB:=ah.mk (ay aJ hb);have xN:=ah.mk ((Dw:fo≠je));have xO:=ah.mk ((Dx:je≠fo));replace cy:=ah.mk (aA sK hb);clear hb bG hg))
   have kj:=ah.mk (iA cy.out)
   have ko:=ah.mk (iA fR.out)
   have mV:=ah.mk (fS HB.out)
   clear cy
   clear fR
   clear HB
   have cy:=kj
   have fR:=ko
   have HB:=mV
   clear kj ko mV
   refine kS (n:=37) (S:=fun w'=>w'.cell? ⟨fo,0,none⟩=some (.int .i64 bg)∧w'.cell? ⟨fo,1,none⟩=some (.bool bP)∧w'.cell? ⟨fo,2,none⟩=some (.slice dS cH.length dU)∧w'.cell? ⟨fo,3,none⟩=some (.string bD)∧w'.cell? ⟨fo,4,none⟩=some (.string bI)∧w'.cell? ⟨fo,5,none⟩=some (.bool bU)∧w'.cell? ⟨fo,6,none⟩=some (.slice cV bL.length cU)∧w'.cell? ⟨fo,7,none⟩=some (.slice dV cN.length dW)∧w'.cell? ⟨fo,8,none⟩=some (.int .i64 bW)) (ds:=[]) #[false,false,false,false,false,false,false,false,false,false,false,false,false,false,false,false,false,false,false,false,false,false,false,false,false,false,false,false,false,false,false,false,false,false,false,false,false] aq (by rfl) (by rfl) ⟨(af cy.out 0).trans rfl,(af cy.out 1).trans rfl,(af cy.out 2).trans rfl,(af cy.out 3).trans rfl,(af cy.out 4).trans rfl,(af cy.out 5).trans rfl,(af cy.out 6).trans rfl,(af cy.out 7).trans rfl,(af cy.out 8).trans rfl⟩ (fun hHeld=>?_);refine kL dA.MK dA.Ee (fun dh rq=>?_)
   generalize RA.drew=AG at cy fR HB hHeld ⊢
   refine fL (i:=0) (N:=some 7) #[true,false,false,false,false,false,false,false,false,false,false,false,false,false,false,false,false,false,false,false,false,false,false,false,false,false,false,false,false,false,false,false,false,false,false,false,false] rfl rfl (eV dh.out rq.out aq) (fun _ _ _ h=>h) (Or.inl ⟨by rfl,pK⟩) hHeld cM ?_
   refine nP (i:=1) (N:=some 8) #[true,true,false,false,false,false,false,false,false,false,false,false,false,false,false,false,false,false,false,false,false,false,false,false,false,false,false,false,false,false,false,false,false,false,false,false,false] rfl rfl (jU dh.out aq) bC (fun K hK=>?_)
   refine lF Tryz.func63 aq rfl #[.agg #[.int .i64 bg,.bool bP,.slice dS cH.length dU,.string bD,.string bI,.bool bU,.slice cV bL.length cU,.slice dV cN.length dW,.int .i64 bW]] (by rfl) rfl rfl dK ?_
   with_reducible refine (dc.calls bg bP _ _ cH bD bI bU _ _ bL _ _ cN bW false _ ?bn ?bN ?cW ?fD ?gK ?gL A4.out).mono ?_
   (case bn=>repeat (exact (Kd.bQ mO.out HB.out)))
   (case bN=>exact mP.out)
   (case cW=>repeat (exact (Kd.bQ lQ.out HB.out)))
   (case fD=>exact mF.out)
   (case gK=>repeat (exact (Kd.bQ vY.out HB.out)))
   (case gL=>exact vZ.out)
   rintro e w29 ⟨rfl,hb⟩
   refine ⟨_,rfl,?_⟩
   have kj:=ah.mk (aA sK hb)
   have ko:=ah.mk (aA (g:=je) (o:= .cells #[.int .i64 gz,.bool gF,.slice og kU.length om,.string iX,.string iN,.bool iO,.slice lU iK.length lV,.slice oo lK.length oq,.int .i64 jN] 34 (0,0)) (by exact fR.out) hb)
   have mV:=ah.mk (ay aJ hb)
   clear cy
   clear fR
   clear HB
   have cy:=kj
   have fR:=ko
   have HB:=mV
   clear kj ko mV
   refine hK.out _ _ ⟨(af cy.out 0).trans rfl,(af cy.out 1).trans rfl,(af cy.out 2).trans rfl,(af cy.out 3).trans rfl,(af cy.out 4).trans rfl,(af cy.out 5).trans rfl,(af cy.out 6).trans rfl,(af cy.out 7).trans rfl,(af cy.out 8).trans rfl⟩ (fun hHeld=>?_)
   clear hK K
   refine ku (a':=?_) ?_ ?_
   rotate_left
   ·show Act.put _ (some 8) _=_
    simp only [Act.put,List.setIfInBounds_toArray,List.set_cons_zero,List.set_cons_succ,aV,aW]
    rfl
   refine aN (i:=2) (N:=some 9) #[true,true,true,false,false,false,false,false,false,false,false,false,false,false,false,false,false,false,false,false,false,false,false,false,false,false,false,false,false,false,false,false,false,false,false,false,false] rfl rfl (bf dh.out aq) (fun _ _ _ h=>h) (Or.inl ⟨by rfl,cD⟩) cM ?_
   refine aN (i:=3) (N:=some 10) #[true,true,true,true,false,false,false,false,false,false,false,false,false,false,false,false,false,false,false,false,false,false,false,false,false,false,false,false,false,false,false,false,false,false,false,false,false] rfl rfl (bf dh.out aq) (fun _ _ _ h=>h) (Or.inl ⟨by rfl,cD⟩) cM ?_
   refine aN (i:=4) (N:=some 11) #[true,true,true,true,true,false,false,false,false,false,false,false,false,false,false,false,false,false,false,false,false,false,false,false,false,false,false,false,false,false,false,false,false,false,false,false,false] rfl rfl (bf dh.out aq) (fun _ _ _ h=>h) (Or.inl ⟨by rfl,cD⟩) cM ?_
   refine aN (i:=6) (N:=some 13) #[true,true,true,true,true,false,true,false,false,false,false,false,false,false,false,false,false,false,false,false,false,false,false,false,false,false,false,false,false,false,false,false,false,false,false,false,false] rfl rfl (bf dh.out aq) (fun _ _ _ h=>h) (Or.inl ⟨by rfl,cD⟩) cM ?_
   refine fL (i:=5) (N:=some 12) #[true,true,true,true,true,true,true,false,false,false,false,false,false,false,false,false,false,false,false,false,false,false,false,false,false,false,false,false,false,false,false,false,false,false,false,false,false] rfl rfl (eV dh.out rq.out aq) (fun _ _ _ h=>h) (Or.inl ⟨by rfl,pK⟩) hHeld cM ?_
   refine aN (i:=7) (N:=some 14) #[true,true,true,true,true,true,true,true,false,false,false,false,false,false,false,false,false,false,false,false,false,false,false,false,false,false,false,false,false,false,false,false,false,false,false,false,false] rfl rfl (bf dh.out aq) (fun _ _ _ h=>h) (Or.inl ⟨by rfl,cD⟩) cM ?_
   refine aN (i:=8) (N:=some 15) #[true,true,true,true,true,true,true,true,true,false,false,false,false,false,false,false,false,false,false,false,false,false,false,false,false,false,false,false,false,false,false,false,false,false,false,false,false] rfl rfl (bf dh.out aq) (fun _ _ _ h=>h) (Or.inl ⟨by rfl,cD⟩) cM ?_
   refine aN (i:=9) (N:=some 16) #[true,true,true,true,true,true,true,true,true,true,false,false,false,false,false,false,false,false,false,false,false,false,false,false,false,false,false,false,false,false,false,false,false,false,false,false,false] rfl rfl (bf dh.out aq) (fun _ _ _ h=>h) (Or.inl ⟨by rfl,cD⟩) cM ?_
   refine aN (i:=10) (N:=some 17) (v:=undef) (a':=?_) #[true,true,true,true,true,true,true,true,true,true,true,false,false,false,false,false,false,false,false,false,false,false,false,false,false,false,false,false,false,false,false,false,false,false,false,false,false] rfl rfl (bf dh.out aq) (fun _ _ _ h=>h) (Or.inr ⟨by rfl,rfl⟩) ?_ ?_
   rotate_left
   ·simp only [Act.put,List.setIfInBounds_toArray,List.set_cons_zero,List.set_cons_succ,aV,aW]
    rfl
   refine aN (i:=11) (N:=some 18) (v:=undef) (a':=?_) #[true,true,true,true,true,true,true,true,true,true,true,true,false,false,false,false,false,false,false,false,false,false,false,false,false,false,false,false,false,false,false,false,false,false,false,false,false] rfl rfl (bf dh.out aq) (fun _ _ _ h=>h) (Or.inr ⟨by rfl,rfl⟩) ?_ ?_
   rotate_left
   ·simp only [Act.put,List.setIfInBounds_toArray,List.set_cons_zero,List.set_cons_succ,aV,aW]
    rfl
   refine aN (i:=12) (N:=some 19) (v:=undef) (a':=?_) #[true,true,true,true,true,true,true,true,true,true,true,true,true,false,false,false,false,false,false,false,false,false,false,false,false,false,false,false,false,false,false,false,false,false,false,false,false] rfl rfl (bf dh.out aq) (fun _ _ _ h=>h) (Or.inr ⟨by rfl,rfl⟩) ?_ ?_
   rotate_left
   ·simp only [Act.put,List.setIfInBounds_toArray,List.set_cons_zero,List.set_cons_succ,aV,aW]
    rfl
   refine aN (i:=13) (N:=some 20) #[true,true,true,true,true,true,true,true,true,true,true,true,true,true,false,false,false,false,false,false,false,false,false,false,false,false,false,false,false,false,false,false,false,false,false,false,false] rfl rfl (bf dh.out aq) (fun _ _ _ h=>h) (Or.inl ⟨by rfl,cD⟩) cM ?_
   refine aN (i:=14) (N:=some 21) #[true,true,true,true,true,true,true,true,true,true,true,true,true,true,true,false,false,false,false,false,false,false,false,false,false,false,false,false,false,false,false,false,false,false,false,false,false] rfl rfl (bf dh.out aq) (fun _ _ _ h=>h) (Or.inl ⟨by rfl,cD⟩) cM ?_
   refine aN (i:=15) (N:=some 22) (v:=undef) (a':=?_) #[true,true,true,true,true,true,true,true,true,true,true,true,true,true,true,true,false,false,false,false,false,false,false,false,false,false,false,false,false,false,false,false,false,false,false,false,false] rfl rfl (bf dh.out aq) (fun _ _ _ h=>h) (Or.inr ⟨by rfl,rfl⟩) ?_ ?_
   rotate_left
   ·simp only [Act.put,List.setIfInBounds_toArray,List.set_cons_zero,List.set_cons_succ,aV,aW]
    rfl
   refine aN (i:=16) (N:=some 23) (v:=undef) (a':=?_) #[true,true,true,true,true,true,true,true,true,true,true,true,true,true,true,true,true,false,false,false,false,false,false,false,false,false,false,false,false,false,false,false,false,false,false,false,false] rfl rfl (bf dh.out aq) (fun _ _ _ h=>h) (Or.inr ⟨by rfl,rfl⟩) ?_ ?_
   rotate_left
   ·simp only [Act.put,List.setIfInBounds_toArray,List.set_cons_zero,List.set_cons_succ,aV,aW]
    rfl
   refine aN (i:=17) (N:=some 24) (v:=undef) (a':=?_) #[true,true,true,true,true,true,true,true,true,true,true,true,true,true,true,true,true,true,false,false,false,false,false,false,false,false,false,false,false,false,false,false,false,false,false,false,false] rfl rfl (bf dh.out aq) (fun _ _ _ h=>h) (Or.inr ⟨by rfl,rfl⟩) ?_ ?_
   rotate_left
   ·simp only [Act.put,List.setIfInBounds_toArray,List.set_cons_zero,List.set_cons_succ,aV,aW]
    rfl
   refine aN (i:=18) (N:=some 25) (v:=undef) (a':=?_) #[true,true,true,true,true,true,true,true,true,true,true,true,true,true,true,true,true,true,true,false,false,false,false,false,false,false,false,false,false,false,false,false,false,false,false,false,false] rfl rfl (bf dh.out aq) (fun _ _ _ h=>h) (Or.inr ⟨by rfl,rfl⟩) ?_ ?_
   rotate_left
   ·simp only [Act.put,List.setIfInBounds_toArray,List.set_cons_zero,List.set_cons_succ,aV,aW]
    rfl
   refine aN (i:=19) (N:=some 26) #[true,true,true,true,true,true,true,true,true,true,true,true,true,true,true,true,true,true,true,true,false,false,false,false,false,false,false,false,false,false,false,false,false,false,false,false,false] rfl rfl (bf dh.out aq) (fun _ _ _ h=>h) (Or.inl ⟨by rfl,cD⟩) cM ?_
   refine aN (i:=20) (N:=some 27) #[true,true,true,true,true,true,true,true,true,true,true,true,true,true,true,true,true,true,true,true,true,false,false,false,false,false,false,false,false,false,false,false,false,false,false,false,false] rfl rfl (bf dh.out aq) (fun _ _ _ h=>h) (Or.inl ⟨by rfl,cD⟩) cM ?_
   refine aN (i:=21) (N:=some 28) (v:=undef) (a':=?_) #[true,true,true,true,true,true,true,true,true,true,true,true,true,true,true,true,true,true,true,true,true,true,false,false,false,false,false,false,false,false,false,false,false,false,false,false,false] rfl rfl (bf dh.out aq) (fun _ _ _ h=>h) (Or.inr ⟨by rfl,rfl⟩) ?_ ?_
   rotate_left
   ·simp only [Act.put,List.setIfInBounds_toArray,List.set_cons_zero,List.set_cons_succ,aV,aW]
    rfl
   refine aN (i:=22) (N:=some 29) (v:=undef) (a':=?_) #[true,true,true,true,true,true,true,true,true,true,true,true,true,true,true,true,true,true,true,true,true,true,true,false,false,false,false,false,false,false,false,false,false,false,false,false,false] rfl rfl (bf dh.out aq) (fun _ _ _ h=>h) (Or.inr ⟨by rfl,rfl⟩) ?_ ?_
   rotate_left
   ·simp only [Act.put,List.setIfInBounds_toArray,List.set_cons_zero,List.set_cons_succ,aV,aW]
    rfl
   refine aN (i:=23) (N:=some 30) (v:=undef) (a':=?_) #[true,true,true,true,true,true,true,true,true,true,true,true,true,true,true,true,true,true,true,true,true,true,true,true,false,false,false,false,false,false,false,false,false,false,false,false,false] rfl rfl (bf dh.out aq) (fun _ _ _ h=>h) (Or.inr ⟨by rfl,rfl⟩) ?_ ?_
   rotate_left
   ·simp only [Act.put,List.setIfInBounds_toArray,List.set_cons_zero,List.set_cons_succ,aV,aW]
    rfl
   refine aN (i:=24) (N:=some 31) (v:=undef) (a':=?_) #[true,true,true,true,true,true,true,true,true,true,true,true,true,true,true,true,true,true,true,true,true,true,true,true,true,false,false,false,false,false,false,false,false,false,false,false,false] rfl rfl (bf dh.out aq) (fun _ _ _ h=>h) (Or.inr ⟨by rfl,rfl⟩) ?_ ?_
   rotate_left
   ·simp only [Act.put,List.setIfInBounds_toArray,List.set_cons_zero,List.set_cons_succ,aV,aW]
    rfl
   refine aN (i:=25) (N:=some 32) (v:=undef) (a':=?_) #[true,true,true,true,true,true,true,true,true,true,true,true,true,true,true,true,true,true,true,true,true,true,true,true,true,true,false,false,false,false,false,false,false,false,false,false,false] rfl rfl (bf dh.out aq) (fun _ _ _ h=>h) (Or.inr ⟨by rfl,rfl⟩) ?_ ?_
   rotate_left
   ·simp only [Act.put,List.setIfInBounds_toArray,List.set_cons_zero,List.set_cons_succ,aV,aW]
    rfl
   refine aN (i:=26) (N:=some 33) (v:=undef) (a':=?_) #[true,true,true,true,true,true,true,true,true,true,true,true,true,true,true,true,true,true,true,true,true,true,true,true,true,true,true,false,false,false,false,false,false,false,false,false,false] rfl rfl (bf dh.out aq) (fun _ _ _ h=>h) (Or.inr ⟨by rfl,rfl⟩) ?_ ?_
   rotate_left
   ·simp only [Act.put,List.setIfInBounds_toArray,List.set_cons_zero,List.set_cons_succ,aV,aW]
    rfl
   refine aN (i:=27) (N:=some 34) (v:=undef) (a':=?_) #[true,true,true,true,true,true,true,true,true,true,true,true,true,true,true,true,true,true,true,true,true,true,true,true,true,true,true,true,false,false,false,false,false,false,false,false,false] rfl rfl (bf dh.out aq) (fun _ _ _ h=>h) (Or.inr ⟨by rfl,rfl⟩) ?_ ?_
   rotate_left
   ·simp only [Act.put,List.setIfInBounds_toArray,List.set_cons_zero,List.set_cons_succ,aV,aW]
    rfl
   refine aN (i:=28) (N:=some 35) (v:=undef) (a':=?_) #[true,true,true,true,true,true,true,true,true,true,true,true,true,true,true,true,true,true,true,true,true,true,true,true,true,true,true,true,true,false,false,false,false,false,false,false,false] rfl rfl (bf dh.out aq) (fun _ _ _ h=>h) (Or.inr ⟨by rfl,rfl⟩) ?_ ?_
   rotate_left
   ·simp only [Act.put,List.setIfInBounds_toArray,List.set_cons_zero,List.set_cons_succ,aV,aW]
    rfl
   refine aN (i:=29) (N:=some 36) (v:=undef) (a':=?_) #[true,true,true,true,true,true,true,true,true,true,true,true,true,true,true,true,true,true,true,true,true,true,true,true,true,true,true,true,true,true,false,false,false,false,false,false,false] rfl rfl (bf dh.out aq) (fun _ _ _ h=>h) (Or.inr ⟨by rfl,rfl⟩) ?_ ?_
   rotate_left
   ·simp only [Act.put,List.setIfInBounds_toArray,List.set_cons_zero,List.set_cons_succ,aV,aW]
    rfl
   refine aN (i:=30) (N:=some 37) (v:=undef) (a':=?_) #[true,true,true,true,true,true,true,true,true,true,true,true,true,true,true,true,true,true,true,true,true,true,true,true,true,true,true,true,true,true,true,false,false,false,false,false,false] rfl rfl (bf dh.out aq) (fun _ _ _ h=>h) (Or.inr ⟨by rfl,rfl⟩) ?_ ?_
   rotate_left
   ·simp only [Act.put,List.setIfInBounds_toArray,List.set_cons_zero,List.set_cons_succ,aV,aW]
    rfl
   refine aN (i:=31) (N:=some 38) (v:=undef) (a':=?_) #[true,true,true,true,true,true,true,true,true,true,true,true,true,true,true,true,true,true,true,true,true,true,true,true,true,true,true,true,true,true,true,true,false,false,false,false,false] rfl rfl (bf dh.out aq) (fun _ _ _ h=>h) (Or.inr ⟨by rfl,rfl⟩) ?_ ?_
   rotate_left
   ·simp only [Act.put,List.setIfInBounds_toArray,List.set_cons_zero,List.set_cons_succ,aV,aW]
    rfl
   refine aN (i:=32) (N:=some 39) (v:=undef) (a':=?_) #[true,true,true,true,true,true,true,true,true,true,true,true,true,true,true,true,true,true,true,true,true,true,true,true,true,true,true,true,true,true,true,true,true,false,false,false,false] rfl rfl (bf dh.out aq) (fun _ _ _ h=>h) (Or.inr ⟨by rfl,rfl⟩) ?_ ?_
   rotate_left
   ·simp only [Act.put,List.setIfInBounds_toArray,List.set_cons_zero,List.set_cons_succ,aV,aW]
    rfl
   refine aN (i:=33) (N:=some 40) (v:=undef) (a':=?_) #[true,true,true,true,true,true,true,true,true,true,true,true,true,true,true,true,true,true,true,true,true,true,true,true,true,true,true,true,true,true,true,true,true,true,false,false,false] rfl rfl (bf dh.out aq) (fun _ _ _ h=>h) (Or.inr ⟨by rfl,rfl⟩) ?_ ?_
   rotate_left
   ·simp only [Act.put,List.setIfInBounds_toArray,List.set_cons_zero,List.set_cons_succ,aV,aW]
    rfl
   refine aN (i:=34) (N:=some 41) (v:=undef) (a':=?_) #[true,true,true,true,true,true,true,true,true,true,true,true,true,true,true,true,true,true,true,true,true,true,true,true,true,true,true,true,true,true,true,true,true,true,true,false,false] rfl rfl (bf dh.out aq) (fun _ _ _ h=>h) (Or.inr ⟨by rfl,rfl⟩) ?_ ?_
   rotate_left
   ·simp only [Act.put,List.setIfInBounds_toArray,List.set_cons_zero,List.set_cons_succ,aV,aW]
    rfl
   refine aN (i:=35) (N:=some 42) #[true,true,true,true,true,true,true,true,true,true,true,true,true,true,true,true,true,true,true,true,true,true,true,true,true,true,true,true,true,true,true,true,true,true,true,true,false] rfl rfl (bf dh.out aq) (fun _ _ _ h=>h) (Or.inl ⟨by rfl,cD⟩) cM ?_
   refine aN (i:=36) (N:=some 6) #[true,true,true,true,true,true,true,true,true,true,true,true,true,true,true,true,true,true,true,true,true,true,true,true,true,true,true,true,true,true,true,true,true,true,true,true,true] rfl rfl (bf dh.out aq) (fun _ _ _ h=>h) (Or.inl ⟨by rfl,cD⟩) cM ?_
   refine nv (nJ dh.out aq) ?_
   try go_wp2
   go_ret
   exact ⟨by rfl,aJ⟩
end Go.Proofs.YtbjjaaodfbjkfaaGreatDoor.mU
