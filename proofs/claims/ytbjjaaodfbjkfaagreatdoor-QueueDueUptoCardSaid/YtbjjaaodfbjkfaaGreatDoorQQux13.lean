import Derived.Test.YtbjjaaodfbjkfaaGreatDoorQQux2
import Derived.Test.YtbjjaaodfbjkfaaGreatDoorQQux5
namespace Go.Proofs.YtbjjaaodfbjkfaaGreatDoor.ow
open Go.RowKit Go.Proofs.YtbjjaaodfbjkfaaGreatDoor.zi Go.Proofs.ak.bY Go.Proofs.ak.dU Go.Proofs.ak.dJ
attribute [local go_sem] jt ju kH kI iw iy jv jw
set_option linter.unusedVariables false
set_option linter.unusedSimpArgs false
attribute [local go_sem high] aeS
def dV.f (bu:Int) (bX:Bool) (cQ:List ByteArray) (bL:ByteArray) (bQ:ByteArray) (b9:Bool) (bT:List (jN)) (cY:List Int) (cg:Int) (jh:Int) (jL:Bool) (lW:List ByteArray) (jB:ByteArray) (ji:ByteArray) (jk:Bool) (je:List (jN)) (mJ:List Int) (ke:Int) (a2:Int):Option (Bool):=(dK.f bu bX cQ bL bQ b9 bT cY cg).bind fun t250=>(if t250=true then (some false) else (if bu≥a2 then (if bX=true then (if (bT.length:Int)=1 then (if 0 < (bT.length:Int) then (some (((((bn bT 0).f0.f0).toList) == jB.toList && ((((bn bT 0).f0.f1).toList) == ji.toList && (((bn bT 0).f0.f2) == jk))) && (((bn bT 0).f1) == 0 && (((bn bT 0).f2) == 0)))) else (none)) else (some false)) else (some false)) else (some false)))
def dV.T1:Bool×List (List Nat×List Nat):=(true,[([],[]),([0],[0]),([1],[1]),([2,1],[2]),([3],[3]),([4,3],[3,4]),([3],[3]),([5,6,3],[3,5,6]),([3,7],[3,7]),([8,3],[8]),([9],[9]),([10,9],[9,10]),([11,9],[9,11]),([9,12],[9,12]),([13,9],[13]),([14],[14]),([15,14],[14,15]),([16,14],[14,16]),([17,14],[14,17]),([14,18],[14,18]),([19,14],[19]),([20],[20]),([21,20],[20,21]),([22,20],[20,22]),([23,20],[20,23]),([20],[20]),([25,20],[20,25]),([26,20],[20,26]),([20],[20]),([28,20],[20,28]),([29,20],[20,29]),([30,20],[20,30]),([31,20],[20,31]),([27,32,20],[20,27,32]),([24,33,20],[20,24,33]),([20,34],[20,34]),([35,20,0,1,2,3,4,5,6,7,8,9,10,11,12,13,14,15,16,17,18,19,20,21,22,23,24,25,26,27,28,29,30,31,32,33,34,35],[35])])
def dV.B1:List Nat:=[0,1,3,7,15,31,15,127,255,511,1023,2047,4095,8191,16383,32767,65535,131071,262143,524287,1048575,2097151,4194303,8388607,16777215,2097151,35651583,102760447,2097151,270532607,807403519,1881145343,4028628991,8558477311,17179869183,34359738367,68719476735]
theorem dV.OQ:qT .any (opsOf Tryz.f106 1)=dV.T1:=by kernel_rfl
theorem dV.Fp:qM dV.T1.2 dV.B1=true:=by kernel_rfl
set_option maxHeartbeats 8000000 in
set_option maxRecDepth 100000 in
theorem dV.calls (bu:Int) (bX:Bool) (eK:Option Addr) (eN:Nat) (cQ:List ByteArray) (bL:ByteArray) (bQ:ByteArray) (b9:Bool) (dA:Option Addr) (dw:Nat) (bT:List (jN)) (eO:Option Addr) (eP:Nat) (cY:List Int) (cg:Int) (jh:Int) (jL:Bool) (pP:Option Addr) (pQ:Nat) (lW:List ByteArray) (jB:ByteArray) (ji:ByteArray) (jk:Bool) (nv:Option Addr) (ny:Nat) (je:List (jN)) (pR:Option Addr) (pS:Nat) (mJ:List Int) (ke:Int) (a2:Int) (r:Bool) (w:World) (rD:Kd.C Kd.string w eK cQ.length cQ) (rE:cQ.length≤eN) (oc:Kd.C sN w dA bT.length bT) (oG:bT.length≤dw) (rF:Kd.C (Kd.int .u8) w eO cY.length cY) (rG:cY.length≤eP) (Mq:Kd.C Kd.string w pP lW.length lW) (Mr:lW.length≤pQ) (AB:Kd.C sN w nv je.length je) (AE:je.length≤ny) (Ms:Kd.C (Kd.int .u8) w pR mJ.length mJ) (Mt:mJ.length≤pS) (h:dV.f bu bX cQ bL bQ b9 bT cY cg jh jL lW jB ji jk je mJ ke a2=some r):
 Calls Tryz.prog 106 #[.agg #[.int .i64 bu,.bool bX,.slice eK cQ.length eN,.string bL,.string bQ,.bool b9,.slice dA bT.length dw,.slice eO cY.length eP,.int .i64 cg],.agg #[.int .i64 jh,.bool jL,.slice pP lW.length pQ,.string jB,.string ji,.bool jk,.slice nv je.length ny,.slice pR mJ.length pS,.int .i64 ke],.int .i64 a2] w fun e w'=>e= .returned (.bool r)∧Below w.heap.size w w':=by
 have CM:=Tryz.underlying34
 have LX:=Tryz.underlying37
 have LW:=Tryz.underlying29
 have og:=ah.mk rD
 have om:=ah.mk rE
 clear rD rE
 have mQ:=ah.mk oc
 have nW:=ah.mk oG
 clear oc oG
 have xp:=ah.mk rF
 have xq:=ah.mk rG
 clear rF rG
 have Tw:=ah.mk Mq
 have Tx:=ah.mk Mr
 clear Mq Mr
 have X4:=ah.mk AB
 have X5:=ah.mk AE
 clear AB AE
 have ae4:=ah.mk Ms
 have ae5:=ah.mk Mt
 clear Ms Mt
 have HB:=ah.mk (Below.refl w.heap.size w)
 have H:((dK.f bu bX cQ bL bQ b9 bT cY cg).bind fun t250=>(if t250=true then (some false) else (if bu≥a2 then (if bX=true then (if (bT.length:Int)=1 then (if 0 < (bT.length:Int) then (some (((((bn bT 0).f0.f0).toList) == jB.toList && ((((bn bT 0).f0.f1).toList) == ji.toList && (((bn bT 0).f0.f2) == jk))) && (((bn bT 0).f1) == 0 && (((bn bT 0).f2) == 0)))) else (none)) else (some false)) else (some false)) else (some false))))=some r:=h
 clear h
 obtain ⟨t250,A4,H⟩:=bd_ H
 by_cases c5:t250=true
 ·subst c5
  rw [if_pos rfl] at H
  obtain rfl:=Option.some.inj H
  go_enter Tryz.func106,Tryz.ntmps106
  try go_wp2_with (first|((with_reducible refine bw (N:=3) rfl ?_);(try (refine bO (by rfl) ?_;dsimp only));refine bA ?hg (N:=3) ?hd (cs:=#[.int .i64 bu,.bool bX,.slice eK cQ.length eN,.string bL,.string bQ,.bool b9,.slice dA bT.length dw,.slice eO cY.length eP,.int .i64 cg]) (t:=34) ?hr ?_;(case hd=>rfl);(case hg=>rfl);(case hr=>(go_simp;done));intro fT hg w6 bH hb;have cG:=ah.mk (bH);have TJ:=ah.mk ((bG:w.heap.size≤fT));have TK:=ah.mk ((bG:w.heap.size≤fT));replace HB:=ah.mk (av aI hb);clear hb bH hg)|((with_reducible refine bw (N:=4) rfl ?_);(try (refine bO (by rfl) ?_;dsimp only));refine bA ?hg (N:=4) ?hd (cs:=#[.int .i64 jh,.bool jL,.slice pP lW.length pQ,.string jB,.string ji,.bool jk,.slice nv je.length ny,.slice pR mJ.length pS,.int .i64 ke]) (t:=34) ?hr ?_;(case hd=>rfl);(case hg=>rfl);(case hr=>(go_simp;done));intro jG hg w7 bH hb;have gF:=ah.mk (bH);have TL:=ah.mk ((bG:w.heap.size≤jG));have TM:=ah.mk ((bG:w.heap.size≤jG));replace HB:=ah.mk (av aI hb);have yq:=ah.mk ((zA:fT≠jG));have yt:=ah.mk ((zB:jG≠fT));replace cG:=ah.mk (az tV hb);clear hb bH hg))
  have jJ:=ah.mk (iR cG.out)
  have jK:=ah.mk (iR gF.out)
  have lV:=ah.mk (gG HB.out)
  clear cG
  clear gF
  clear HB
  have cG:=jJ
  have gF:=jK
  have HB:=lV
  clear jJ jK lV
  refine lU (n:=37) (S:=fun w'=>w'.cell? ⟨fT,0,none⟩=some (.int .i64 bu)∧w'.cell? ⟨fT,1,none⟩=some (.bool bX)∧w'.cell? ⟨fT,2,none⟩=some (.slice eK cQ.length eN)∧w'.cell? ⟨fT,3,none⟩=some (.string bL)∧w'.cell? ⟨fT,4,none⟩=some (.string bQ)∧w'.cell? ⟨fT,5,none⟩=some (.bool b9)∧w'.cell? ⟨fT,6,none⟩=some (.slice dA bT.length dw)∧w'.cell? ⟨fT,7,none⟩=some (.slice eO cY.length eP)∧w'.cell? ⟨fT,8,none⟩=some (.int .i64 cg)) (ds:=[]) #[false,false,false,false,false,false,false,false,false,false,false,false,false,false,false,false,false,false,false,false,false,false,false,false,false,false,false,false,false,false,false,false,false,false,false,false,false] au (by rfl) (by rfl) ⟨(af cG.out 0).trans rfl,(af cG.out 1).trans rfl,(af cG.out 2).trans rfl,(af cG.out 3).trans rfl,(af cG.out 4).trans rfl,(af cG.out 5).trans rfl,(af cG.out 6).trans rfl,(af cG.out 7).trans rfl,(af cG.out 8).trans rfl⟩ (fun hHeld=>?_);refine lG dV.OQ dV.Fp (fun dL sJ=>?_)
  generalize w7.drew=w8 at cG gF HB hHeld ⊢
  refine gv (i:=0) (N:=some 7) #[true,false,false,false,false,false,false,false,false,false,false,false,false,false,false,false,false,false,false,false,false,false,false,false,false,false,false,false,false,false,false,false,false,false,false,false,false] rfl rfl (fK dL.out sJ.out au) (fun _ _ _ h=>h) (Or.inl ⟨by rfl,qA⟩) hHeld cX ?_
  refine pq (i:=1) (N:=some 8) #[true,true,false,false,false,false,false,false,false,false,false,false,false,false,false,false,false,false,false,false,false,false,false,false,false,false,false,false,false,false,false,false,false,false,false,false,false] rfl rfl (kF dL.out au) bC (fun K hK=>?_)
  refine mH Tryz.func63 au rfl #[.agg #[.int .i64 bu,.bool bX,.slice eK cQ.length eN,.string bL,.string bQ,.bool b9,.slice dA bT.length dw,.slice eO cY.length eP,.int .i64 cg]] (by rfl) rfl rfl dM ?_
  with_reducible refine (dK.calls bu bX _ _ cQ bL bQ b9 _ _ bT _ _ cY cg true _ ?bk ?bI ?cO ?ey ?gz ?gA A4.out).mono ?_
  (case bk=>repeat (exact (Kd.bU og.out HB.out)))
  (case bI=>exact om.out)
  (case cO=>repeat (exact (Kd.bU mQ.out HB.out)))
  (case ey=>exact nW.out)
  (case gz=>repeat (exact (Kd.bU xp.out HB.out)))
  (case gA=>exact xq.out)
  rintro e w9 ⟨rfl,hb⟩
  refine ⟨_,rfl,?_⟩
  have jJ:=ah.mk (az tV hb)
  have jK:=ah.mk (az (g:=jG) (o:= .cells #[.int .i64 jh,.bool jL,.slice pP lW.length pQ,.string jB,.string ji,.bool jk,.slice nv je.length ny,.slice pR mJ.length pS,.int .i64 ke] 34 (0,0)) (by exact gF.out) hb)
  have lV:=ah.mk (av aI hb)
  clear cG
  clear gF
  clear HB
  have cG:=jJ
  have gF:=jK
  have HB:=lV
  clear jJ jK lV
  refine hK.out _ _ ⟨(af cG.out 0).trans rfl,(af cG.out 1).trans rfl,(af cG.out 2).trans rfl,(af cG.out 3).trans rfl,(af cG.out 4).trans rfl,(af cG.out 5).trans rfl,(af cG.out 6).trans rfl,(af cG.out 7).trans rfl,(af cG.out 8).trans rfl⟩ (fun hHeld=>?_)
  clear hK K
  refine kX (a':=?_) ?_ ?_
  rotate_left
  ·show Act.put _ (some 8) _=_
   simp only [Act.put,List.setIfInBounds_toArray,List.set_cons_zero,List.set_cons_succ,aY,aZ]
   rfl
  refine aQ (i:=2) (N:=some 9) #[true,true,true,false,false,false,false,false,false,false,false,false,false,false,false,false,false,false,false,false,false,false,false,false,false,false,false,false,false,false,false,false,false,false,false,false,false] rfl rfl (br dL.out au) (fun _ _ _ h=>h) (Or.inl ⟨by rfl,cJ⟩) cX ?_
  refine aQ (i:=3) (N:=some 10) #[true,true,true,true,false,false,false,false,false,false,false,false,false,false,false,false,false,false,false,false,false,false,false,false,false,false,false,false,false,false,false,false,false,false,false,false,false] rfl rfl (br dL.out au) (fun _ _ _ h=>h) (Or.inl ⟨by rfl,cJ⟩) cX ?_
  refine aQ (i:=4) (N:=some 11) (v:=undef) (a':=?_) #[true,true,true,true,true,false,false,false,false,false,false,false,false,false,false,false,false,false,false,false,false,false,false,false,false,false,false,false,false,false,false,false,false,false,false,false,false] rfl rfl (br dL.out au) (fun _ _ _ h=>h) (Or.inr ⟨by rfl,rfl⟩) ?_ ?_
  rotate_left
  ·simp only [Act.put,List.setIfInBounds_toArray,List.set_cons_zero,List.set_cons_succ,aY,aZ]
   rfl
  refine aQ (i:=5) (N:=some 12) (v:=undef) (a':=?_) #[true,true,true,true,true,true,false,false,false,false,false,false,false,false,false,false,false,false,false,false,false,false,false,false,false,false,false,false,false,false,false,false,false,false,false,false,false] rfl rfl (br dL.out au) (fun _ _ _ h=>h) (Or.inr ⟨by rfl,rfl⟩) ?_ ?_
  rotate_left
  ·simp only [Act.put,List.setIfInBounds_toArray,List.set_cons_zero,List.set_cons_succ,aY,aZ]
   rfl
  refine aQ (i:=6) (N:=some 13) (v:=undef) (a':=?_) #[true,true,true,true,true,true,true,false,false,false,false,false,false,false,false,false,false,false,false,false,false,false,false,false,false,false,false,false,false,false,false,false,false,false,false,false,false] rfl rfl (br dL.out au) (fun _ _ _ h=>h) (Or.inr ⟨by rfl,rfl⟩) ?_ ?_
  rotate_left
  ·simp only [Act.put,List.setIfInBounds_toArray,List.set_cons_zero,List.set_cons_succ,aY,aZ]
   rfl
  refine aQ (i:=7) (N:=some 14) (v:=undef) (a':=?_) #[true,true,true,true,true,true,true,true,false,false,false,false,false,false,false,false,false,false,false,false,false,false,false,false,false,false,false,false,false,false,false,false,false,false,false,false,false] rfl rfl (br dL.out au) (fun _ _ _ h=>h) (Or.inr ⟨by rfl,rfl⟩) ?_ ?_
  rotate_left
  ·simp only [Act.put,List.setIfInBounds_toArray,List.set_cons_zero,List.set_cons_succ,aY,aZ]
   rfl
  refine aQ (i:=8) (N:=some 15) #[true,true,true,true,true,true,true,true,true,false,false,false,false,false,false,false,false,false,false,false,false,false,false,false,false,false,false,false,false,false,false,false,false,false,false,false,false] rfl rfl (br dL.out au) (fun _ _ _ h=>h) (Or.inl ⟨by rfl,cJ⟩) cX ?_
  refine aQ (i:=9) (N:=some 16) #[true,true,true,true,true,true,true,true,true,true,false,false,false,false,false,false,false,false,false,false,false,false,false,false,false,false,false,false,false,false,false,false,false,false,false,false,false] rfl rfl (br dL.out au) (fun _ _ _ h=>h) (Or.inl ⟨by rfl,cJ⟩) cX ?_
  refine aQ (i:=10) (N:=some 17) (v:=undef) (a':=?_) #[true,true,true,true,true,true,true,true,true,true,true,false,false,false,false,false,false,false,false,false,false,false,false,false,false,false,false,false,false,false,false,false,false,false,false,false,false] rfl rfl (br dL.out au) (fun _ _ _ h=>h) (Or.inr ⟨by rfl,rfl⟩) ?_ ?_
  rotate_left
  ·simp only [Act.put,List.setIfInBounds_toArray,List.set_cons_zero,List.set_cons_succ,aY,aZ]
   rfl
  refine aQ (i:=11) (N:=some 18) (v:=undef) (a':=?_) #[true,true,true,true,true,true,true,true,true,true,true,true,false,false,false,false,false,false,false,false,false,false,false,false,false,false,false,false,false,false,false,false,false,false,false,false,false] rfl rfl (br dL.out au) (fun _ _ _ h=>h) (Or.inr ⟨by rfl,rfl⟩) ?_ ?_
  rotate_left
  ·simp only [Act.put,List.setIfInBounds_toArray,List.set_cons_zero,List.set_cons_succ,aY,aZ]
   rfl
  refine aQ (i:=12) (N:=some 19) (v:=undef) (a':=?_) #[true,true,true,true,true,true,true,true,true,true,true,true,true,false,false,false,false,false,false,false,false,false,false,false,false,false,false,false,false,false,false,false,false,false,false,false,false] rfl rfl (br dL.out au) (fun _ _ _ h=>h) (Or.inr ⟨by rfl,rfl⟩) ?_ ?_
  rotate_left
  ·simp only [Act.put,List.setIfInBounds_toArray,List.set_cons_zero,List.set_cons_succ,aY,aZ]
   rfl
  refine aQ (i:=13) (N:=some 20) #[true,true,true,true,true,true,true,true,true,true,true,true,true,true,false,false,false,false,false,false,false,false,false,false,false,false,false,false,false,false,false,false,false,false,false,false,false] rfl rfl (br dL.out au) (fun _ _ _ h=>h) (Or.inl ⟨by rfl,cJ⟩) cX ?_
  refine aQ (i:=14) (N:=some 21) #[true,true,true,true,true,true,true,true,true,true,true,true,true,true,true,false,false,false,false,false,false,false,false,false,false,false,false,false,false,false,false,false,false,false,false,false,false] rfl rfl (br dL.out au) (fun _ _ _ h=>h) (Or.inl ⟨by rfl,cJ⟩) cX ?_
  refine aQ (i:=15) (N:=some 22) (v:=undef) (a':=?_) #[true,true,true,true,true,true,true,true,true,true,true,true,true,true,true,true,false,false,false,false,false,false,false,false,false,false,false,false,false,false,false,false,false,false,false,false,false] rfl rfl (br dL.out au) (fun _ _ _ h=>h) (Or.inr ⟨by rfl,rfl⟩) ?_ ?_
  rotate_left
  ·simp only [Act.put,List.setIfInBounds_toArray,List.set_cons_zero,List.set_cons_succ,aY,aZ]
   rfl
  refine aQ (i:=16) (N:=some 23) (v:=undef) (a':=?_) #[true,true,true,true,true,true,true,true,true,true,true,true,true,true,true,true,true,false,false,false,false,false,false,false,false,false,false,false,false,false,false,false,false,false,false,false,false] rfl rfl (br dL.out au) (fun _ _ _ h=>h) (Or.inr ⟨by rfl,rfl⟩) ?_ ?_
  rotate_left
  ·simp only [Act.put,List.setIfInBounds_toArray,List.set_cons_zero,List.set_cons_succ,aY,aZ]
   rfl
  refine aQ (i:=17) (N:=some 24) (v:=undef) (a':=?_) #[true,true,true,true,true,true,true,true,true,true,true,true,true,true,true,true,true,true,false,false,false,false,false,false,false,false,false,false,false,false,false,false,false,false,false,false,false] rfl rfl (br dL.out au) (fun _ _ _ h=>h) (Or.inr ⟨by rfl,rfl⟩) ?_ ?_
  rotate_left
  ·simp only [Act.put,List.setIfInBounds_toArray,List.set_cons_zero,List.set_cons_succ,aY,aZ]
   rfl
  refine aQ (i:=18) (N:=some 25) (v:=undef) (a':=?_) #[true,true,true,true,true,true,true,true,true,true,true,true,true,true,true,true,true,true,true,false,false,false,false,false,false,false,false,false,false,false,false,false,false,false,false,false,false] rfl rfl (br dL.out au) (fun _ _ _ h=>h) (Or.inr ⟨by rfl,rfl⟩) ?_ ?_
  rotate_left
  ·simp only [Act.put,List.setIfInBounds_toArray,List.set_cons_zero,List.set_cons_succ,aY,aZ]
   rfl
  refine aQ (i:=19) (N:=some 26) #[true,true,true,true,true,true,true,true,true,true,true,true,true,true,true,true,true,true,true,true,false,false,false,false,false,false,false,false,false,false,false,false,false,false,false,false,false] rfl rfl (br dL.out au) (fun _ _ _ h=>h) (Or.inl ⟨by rfl,cJ⟩) cX ?_
  refine aQ (i:=20) (N:=some 27) #[true,true,true,true,true,true,true,true,true,true,true,true,true,true,true,true,true,true,true,true,true,false,false,false,false,false,false,false,false,false,false,false,false,false,false,false,false] rfl rfl (br dL.out au) (fun _ _ _ h=>h) (Or.inl ⟨by rfl,cJ⟩) cX ?_
  refine aQ (i:=21) (N:=some 28) (v:=undef) (a':=?_) #[true,true,true,true,true,true,true,true,true,true,true,true,true,true,true,true,true,true,true,true,true,true,false,false,false,false,false,false,false,false,false,false,false,false,false,false,false] rfl rfl (br dL.out au) (fun _ _ _ h=>h) (Or.inr ⟨by rfl,rfl⟩) ?_ ?_
  rotate_left
  ·simp only [Act.put,List.setIfInBounds_toArray,List.set_cons_zero,List.set_cons_succ,aY,aZ]
   rfl
  refine aQ (i:=22) (N:=some 29) (v:=undef) (a':=?_) #[true,true,true,true,true,true,true,true,true,true,true,true,true,true,true,true,true,true,true,true,true,true,true,false,false,false,false,false,false,false,false,false,false,false,false,false,false] rfl rfl (br dL.out au) (fun _ _ _ h=>h) (Or.inr ⟨by rfl,rfl⟩) ?_ ?_
  rotate_left
  ·simp only [Act.put,List.setIfInBounds_toArray,List.set_cons_zero,List.set_cons_succ,aY,aZ]
   rfl
  refine aQ (i:=23) (N:=some 30) (v:=undef) (a':=?_) #[true,true,true,true,true,true,true,true,true,true,true,true,true,true,true,true,true,true,true,true,true,true,true,true,false,false,false,false,false,false,false,false,false,false,false,false,false] rfl rfl (br dL.out au) (fun _ _ _ h=>h) (Or.inr ⟨by rfl,rfl⟩) ?_ ?_
  rotate_left
  ·simp only [Act.put,List.setIfInBounds_toArray,List.set_cons_zero,List.set_cons_succ,aY,aZ]
   rfl
  refine aQ (i:=24) (N:=some 31) (v:=undef) (a':=?_) #[true,true,true,true,true,true,true,true,true,true,true,true,true,true,true,true,true,true,true,true,true,true,true,true,true,false,false,false,false,false,false,false,false,false,false,false,false] rfl rfl (br dL.out au) (fun _ _ _ h=>h) (Or.inr ⟨by rfl,rfl⟩) ?_ ?_
  rotate_left
  ·simp only [Act.put,List.setIfInBounds_toArray,List.set_cons_zero,List.set_cons_succ,aY,aZ]
   rfl
  refine aQ (i:=25) (N:=some 32) (v:=undef) (a':=?_) #[true,true,true,true,true,true,true,true,true,true,true,true,true,true,true,true,true,true,true,true,true,true,true,true,true,true,false,false,false,false,false,false,false,false,false,false,false] rfl rfl (br dL.out au) (fun _ _ _ h=>h) (Or.inr ⟨by rfl,rfl⟩) ?_ ?_
  rotate_left
  ·simp only [Act.put,List.setIfInBounds_toArray,List.set_cons_zero,List.set_cons_succ,aY,aZ]
   rfl
  refine aQ (i:=26) (N:=some 33) (v:=undef) (a':=?_) #[true,true,true,true,true,true,true,true,true,true,true,true,true,true,true,true,true,true,true,true,true,true,true,true,true,true,true,false,false,false,false,false,false,false,false,false,false] rfl rfl (br dL.out au) (fun _ _ _ h=>h) (Or.inr ⟨by rfl,rfl⟩) ?_ ?_
  rotate_left
  ·simp only [Act.put,List.setIfInBounds_toArray,List.set_cons_zero,List.set_cons_succ,aY,aZ]
   rfl
  refine aQ (i:=27) (N:=some 34) (v:=undef) (a':=?_) #[true,true,true,true,true,true,true,true,true,true,true,true,true,true,true,true,true,true,true,true,true,true,true,true,true,true,true,true,false,false,false,false,false,false,false,false,false] rfl rfl (br dL.out au) (fun _ _ _ h=>h) (Or.inr ⟨by rfl,rfl⟩) ?_ ?_
  rotate_left
  ·simp only [Act.put,List.setIfInBounds_toArray,List.set_cons_zero,List.set_cons_succ,aY,aZ]
   rfl
  refine aQ (i:=28) (N:=some 35) (v:=undef) (a':=?_) #[true,true,true,true,true,true,true,true,true,true,true,true,true,true,true,true,true,true,true,true,true,true,true,true,true,true,true,true,true,false,false,false,false,false,false,false,false] rfl rfl (br dL.out au) (fun _ _ _ h=>h) (Or.inr ⟨by rfl,rfl⟩) ?_ ?_
  rotate_left
  ·simp only [Act.put,List.setIfInBounds_toArray,List.set_cons_zero,List.set_cons_succ,aY,aZ]
   rfl
  refine aQ (i:=29) (N:=some 36) (v:=undef) (a':=?_) #[true,true,true,true,true,true,true,true,true,true,true,true,true,true,true,true,true,true,true,true,true,true,true,true,true,true,true,true,true,true,false,false,false,false,false,false,false] rfl rfl (br dL.out au) (fun _ _ _ h=>h) (Or.inr ⟨by rfl,rfl⟩) ?_ ?_
  rotate_left
  ·simp only [Act.put,List.setIfInBounds_toArray,List.set_cons_zero,List.set_cons_succ,aY,aZ]
   rfl
  refine aQ (i:=30) (N:=some 37) (v:=undef) (a':=?_) #[true,true,true,true,true,true,true,true,true,true,true,true,true,true,true,true,true,true,true,true,true,true,true,true,true,true,true,true,true,true,true,false,false,false,false,false,false] rfl rfl (br dL.out au) (fun _ _ _ h=>h) (Or.inr ⟨by rfl,rfl⟩) ?_ ?_
  rotate_left
  ·simp only [Act.put,List.setIfInBounds_toArray,List.set_cons_zero,List.set_cons_succ,aY,aZ]
   rfl
  refine aQ (i:=31) (N:=some 38) (v:=undef) (a':=?_) #[true,true,true,true,true,true,true,true,true,true,true,true,true,true,true,true,true,true,true,true,true,true,true,true,true,true,true,true,true,true,true,true,false,false,false,false,false] rfl rfl (br dL.out au) (fun _ _ _ h=>h) (Or.inr ⟨by rfl,rfl⟩) ?_ ?_
  rotate_left
  ·simp only [Act.put,List.setIfInBounds_toArray,List.set_cons_zero,List.set_cons_succ,aY,aZ]
   rfl
  refine aQ (i:=32) (N:=some 39) (v:=undef) (a':=?_) #[true,true,true,true,true,true,true,true,true,true,true,true,true,true,true,true,true,true,true,true,true,true,true,true,true,true,true,true,true,true,true,true,true,false,false,false,false] rfl rfl (br dL.out au) (fun _ _ _ h=>h) (Or.inr ⟨by rfl,rfl⟩) ?_ ?_
  rotate_left
  ·simp only [Act.put,List.setIfInBounds_toArray,List.set_cons_zero,List.set_cons_succ,aY,aZ]
   rfl
  refine aQ (i:=33) (N:=some 40) (v:=undef) (a':=?_) #[true,true,true,true,true,true,true,true,true,true,true,true,true,true,true,true,true,true,true,true,true,true,true,true,true,true,true,true,true,true,true,true,true,true,false,false,false] rfl rfl (br dL.out au) (fun _ _ _ h=>h) (Or.inr ⟨by rfl,rfl⟩) ?_ ?_
  rotate_left
  ·simp only [Act.put,List.setIfInBounds_toArray,List.set_cons_zero,List.set_cons_succ,aY,aZ]
   rfl
  refine aQ (i:=34) (N:=some 41) (v:=undef) (a':=?_) #[true,true,true,true,true,true,true,true,true,true,true,true,true,true,true,true,true,true,true,true,true,true,true,true,true,true,true,true,true,true,true,true,true,true,true,false,false] rfl rfl (br dL.out au) (fun _ _ _ h=>h) (Or.inr ⟨by rfl,rfl⟩) ?_ ?_
  rotate_left
  ·simp only [Act.put,List.setIfInBounds_toArray,List.set_cons_zero,List.set_cons_succ,aY,aZ]
   rfl
  refine aQ (i:=35) (N:=some 42) #[true,true,true,true,true,true,true,true,true,true,true,true,true,true,true,true,true,true,true,true,true,true,true,true,true,true,true,true,true,true,true,true,true,true,true,true,false] rfl rfl (br dL.out au) (fun _ _ _ h=>h) (Or.inl ⟨by rfl,cJ⟩) cX ?_
  refine aQ (i:=36) (N:=some 6) #[true,true,true,true,true,true,true,true,true,true,true,true,true,true,true,true,true,true,true,true,true,true,true,true,true,true,true,true,true,true,true,true,true,true,true,true,true] rfl rfl (br dL.out au) (fun _ _ _ h=>h) (Or.inl ⟨by rfl,cJ⟩) cX ?_
  refine oU (o7 dL.out au) ?_
  try go_wp2
  go_ret
  exact ⟨by rfl,aI⟩
 ·replace c5:=Bool.eq_false_iff.mpr c5
  subst c5
  rw [if_neg (show ¬ (false=true) by decide)] at H
  by_cases c10:bu≥a2
  ·rw [if_pos c10] at H
   have GM:decide (a2≤bu)=true:=decide_eq_true c10
   clear c10
   by_cases c11:bX=true
   ·subst c11
    rw [if_pos rfl] at H
    by_cases c12:(bT.length:Int)=1
    ·rw [if_pos c12] at H
     have L8:=beq_iff_eq.mpr c12
     have Xf:=bne_eq_false_iff_eq.mpr c12
     clear c12
     obtain ⟨c13,H⟩:=lg H
     have E8:=decide_eq_true c13
     have Mn:decide (0 < bT.length)=true:=decide_eq_true aA
     clear c13
     obtain rfl:=Option.some.inj H
     go_enter Tryz.func106,Tryz.ntmps106
     try go_wp2_with (first|((with_reducible refine bw (N:=3) rfl ?_);(try (refine bO (by rfl) ?_;dsimp only));refine bA ?hg (N:=3) ?hd (cs:=#[.int .i64 bu,.bool true,.slice eK cQ.length eN,.string bL,.string bQ,.bool b9,.slice dA bT.length dw,.slice eO cY.length eP,.int .i64 cg]) (t:=34) ?hr ?_;(case hd=>rfl);(case hg=>rfl);(case hr=>(go_simp;done));intro fT hg Np bH hb;have cG:=ah.mk (bH);have TJ:=ah.mk ((bG:w.heap.size≤fT));have TK:=ah.mk ((bG:w.heap.size≤fT));replace HB:=ah.mk (av aI hb);clear hb bH hg)|((with_reducible refine bw (N:=4) rfl ?_);(try (refine bO (by rfl) ?_;dsimp only));refine bA ?hg (N:=4) ?hd (cs:=#[.int .i64 jh,.bool jL,.slice pP lW.length pQ,.string jB,.string ji,.bool jk,.slice nv je.length ny,.slice pR mJ.length pS,.int .i64 ke]) (t:=34) ?hr ?_;(case hd=>rfl);(case hg=>rfl);(case hr=>(go_simp;done));intro jG hg wO bH hb;have gF:=ah.mk (bH);have TL:=ah.mk ((bG:w.heap.size≤jG));have TM:=ah.mk ((bG:w.heap.size≤jG));replace HB:=ah.mk (av aI hb);have yq:=ah.mk ((zA:fT≠jG));have yt:=ah.mk ((zB:jG≠fT));replace cG:=ah.mk (az tV hb);clear hb bH hg))
     have jJ:=ah.mk (iR cG.out)
     have jK:=ah.mk (iR gF.out)
     have lV:=ah.mk (gG HB.out)
     clear cG
     clear gF
     clear HB
     have cG:=jJ
     have gF:=jK
     have HB:=lV
     clear jJ jK lV
     have ahw: 0≤(0:Int):=aA
     have ahx: 0 < (bT.length:Int):=of_decide_eq_true cL
     obtain ⟨nD,aDV,tv,tA,tB,tC,tD,tE⟩:=pz mQ.out 0 ahw ahx
     have wq:=tE
     (try rw [show ((0:Int)).toNat=0 from rfl] at wq)
     (try rw [show 0 * 6=0 from rfl] at wq)
     (try rw [Addr.add_zero'] at wq)
     have wu:=tD
     (try rw [show ((0:Int)).toNat=0 from rfl] at wu)
     (try rw [show 0 * 6=0 from rfl] at wu)
     (try rw [Addr.add_zero'] at wu)
     have wz:=tC
     (try rw [show ((0:Int)).toNat=0 from rfl] at wz)
     (try rw [show 0 * 6=0 from rfl] at wz)
     (try rw [Addr.add_zero'] at wz)
     have wA:=tB
     (try rw [show ((0:Int)).toNat=0 from rfl] at wA)
     (try rw [show 0 * 6=0 from rfl] at wA)
     (try rw [Addr.add_zero'] at wA)
     have wB:=tA
     (try rw [show ((0:Int)).toNat=0 from rfl] at wB)
     (try rw [show 0 * 6=0 from rfl] at wB)
     (try rw [Addr.add_zero'] at wB)
     have wC:=tv
     (try rw [show ((0:Int)).toNat=0 from rfl] at wC)
     (try rw [show 0 * 6=0 from rfl] at wC)
     (try rw [Addr.add_zero'] at wC)
     cases aDV
     have aGB:(0 < bT.length)=True:=eq_true aA
     (try rw [show ((0:Int)).toNat=0 from rfl] at tv)
     (try rw [show 0 * 6=0 from rfl] at tv)
     (try rw [Addr.add_zero'] at tv)
     (try rw [show ((0:Int)).toNat=0 from rfl] at tA)
     (try rw [show 0 * 6=0 from rfl] at tA)
     (try rw [Addr.add_zero'] at tA)
     (try rw [show ((0:Int)).toNat=0 from rfl] at tB)
     (try rw [show 0 * 6=0 from rfl] at tB)
     (try rw [Addr.add_zero'] at tB)
     (try rw [show ((0:Int)).toNat=0 from rfl] at tC)
     (try rw [show 0 * 6=0 from rfl] at tC)
     (try rw [Addr.add_zero'] at tC)
     (try rw [show ((0:Int)).toNat=0 from rfl] at tD)
     (try rw [show 0 * 6=0 from rfl] at tD)
     (try rw [Addr.add_zero'] at tD)
     (try rw [show ((0:Int)).toNat=0 from rfl] at tE)
     (try rw [show 0 * 6=0 from rfl] at tE)
     (try rw [Addr.add_zero'] at tE)
     replace tv:=(HB.out.cell (World.block_lt_of_cell? w _ tv)).trans tv
     replace tA:=(HB.out.cell (World.block_lt_of_cell? w _ tA)).trans tA
     replace tB:=(HB.out.cell (World.block_lt_of_cell? w _ tB)).trans tB
     replace tC:=(HB.out.cell (World.block_lt_of_cell? w _ tC)).trans tC
     replace tD:=(HB.out.cell (World.block_lt_of_cell? w _ tD)).trans tD
     replace tE:=(HB.out.cell (World.block_lt_of_cell? w _ tE)).trans tE
     replace ahw:=eq_true ahw
     replace ahx:=eq_true ahx
     have ahy: 0≤(0:Int):=aA
     have ahz: 0 < (bT.length:Int):=of_decide_eq_true cL
     obtain ⟨aop,aDW,tF,tG,tH,tI,tJ,tK⟩:=pz mQ.out 0 ahy ahz
     have wD:=tK
     (try rw [show ((0:Int)).toNat=0 from rfl] at wD)
     (try rw [show 0 * 6=0 from rfl] at wD)
     (try rw [Addr.add_zero'] at wD)
     have wE:=tJ
     (try rw [show ((0:Int)).toNat=0 from rfl] at wE)
     (try rw [show 0 * 6=0 from rfl] at wE)
     (try rw [Addr.add_zero'] at wE)
     have wF:=tI
     (try rw [show ((0:Int)).toNat=0 from rfl] at wF)
     (try rw [show 0 * 6=0 from rfl] at wF)
     (try rw [Addr.add_zero'] at wF)
     have wG:=tH
     (try rw [show ((0:Int)).toNat=0 from rfl] at wG)
     (try rw [show 0 * 6=0 from rfl] at wG)
     (try rw [Addr.add_zero'] at wG)
     have wH:=tG
     (try rw [show ((0:Int)).toNat=0 from rfl] at wH)
     (try rw [show 0 * 6=0 from rfl] at wH)
     (try rw [Addr.add_zero'] at wH)
     have wI:=tF
     (try rw [show ((0:Int)).toNat=0 from rfl] at wI)
     (try rw [show 0 * 6=0 from rfl] at wI)
     (try rw [Addr.add_zero'] at wI)
     obtain rfl:nD=aop:=(by injection aDW)
     have aGC:(0 < bT.length)=True:=eq_true aA
     (try rw [show ((0:Int)).toNat=0 from rfl] at tF)
     (try rw [show 0 * 6=0 from rfl] at tF)
     (try rw [Addr.add_zero'] at tF)
     (try rw [show ((0:Int)).toNat=0 from rfl] at tG)
     (try rw [show 0 * 6=0 from rfl] at tG)
     (try rw [Addr.add_zero'] at tG)
     (try rw [show ((0:Int)).toNat=0 from rfl] at tH)
     (try rw [show 0 * 6=0 from rfl] at tH)
     (try rw [Addr.add_zero'] at tH)
     (try rw [show ((0:Int)).toNat=0 from rfl] at tI)
     (try rw [show 0 * 6=0 from rfl] at tI)
     (try rw [Addr.add_zero'] at tI)
     (try rw [show ((0:Int)).toNat=0 from rfl] at tJ)
     (try rw [show 0 * 6=0 from rfl] at tJ)
     (try rw [Addr.add_zero'] at tJ)
     (try rw [show ((0:Int)).toNat=0 from rfl] at tK)
     (try rw [show 0 * 6=0 from rfl] at tK)
     (try rw [Addr.add_zero'] at tK)
     replace tF:=(HB.out.cell (World.block_lt_of_cell? w _ tF)).trans tF
     replace tG:=(HB.out.cell (World.block_lt_of_cell? w _ tG)).trans tG
     replace tH:=(HB.out.cell (World.block_lt_of_cell? w _ tH)).trans tH
     replace tI:=(HB.out.cell (World.block_lt_of_cell? w _ tI)).trans tI
     replace tJ:=(HB.out.cell (World.block_lt_of_cell? w _ tJ)).trans tJ
     replace tK:=(HB.out.cell (World.block_lt_of_cell? w _ tK)).trans tK
     replace ahy:=eq_true ahy
     replace ahz:=eq_true ahz
     refine lU (n:=37) (S:=fun w'=>w'.cell? ⟨fT,0,none⟩=some (.int .i64 bu)∧w'.cell? ⟨fT,1,none⟩=some (.bool true)∧w'.cell? ⟨fT,2,none⟩=some (.slice eK cQ.length eN)∧w'.cell? ⟨fT,3,none⟩=some (.string bL)∧w'.cell? ⟨fT,4,none⟩=some (.string bQ)∧w'.cell? ⟨fT,5,none⟩=some (.bool b9)∧w'.cell? ⟨fT,6,none⟩=some (.slice (some nD) bT.length dw)∧w'.cell? ⟨fT,7,none⟩=some (.slice eO cY.length eP)∧w'.cell? ⟨fT,8,none⟩=some (.int .i64 cg)∧w'.cell? ⟨jG,0,none⟩=some (.int .i64 jh)∧w'.cell? ⟨jG,1,none⟩=some (.bool jL)∧w'.cell? ⟨jG,2,none⟩=some (.slice pP lW.length pQ)∧w'.cell? ⟨jG,3,none⟩=some (.string jB)∧w'.cell? ⟨jG,4,none⟩=some (.string ji)∧w'.cell? ⟨jG,5,none⟩=some (.bool jk)∧w'.cell? ⟨jG,6,none⟩=some (.slice nv je.length ny)∧w'.cell? ⟨jG,7,none⟩=some (.slice pR mJ.length pS)∧w'.cell? ⟨jG,8,none⟩=some (.int .i64 ke)∧w'.cell? nD=some (.string ((bn bT 0).f0.f0))∧w'.cell? ⟨nD.block,nD.off + 1,none⟩=some (.string ((bn bT 0).f0.f1))∧w'.cell? ⟨nD.block,nD.off + 2,none⟩=some (.bool ((bn bT 0).f0.f2))∧w'.cell? ⟨nD.block,nD.off + 3,none⟩=some (.int .u8 ((bn bT 0).f1))∧w'.cell? ⟨nD.block,nD.off + 4,none⟩=some (.int .i64 ((bn bT 0).f2))∧w'.cell? ⟨nD.block,nD.off + 5,none⟩=some (.int .i64 ((bn bT 0).f3))∧w'.cell? nD=some (.string ((bn bT 0).f0.f0))∧w'.cell? ⟨nD.block,nD.off + 1,none⟩=some (.string ((bn bT 0).f0.f1))∧w'.cell? ⟨nD.block,nD.off + 2,none⟩=some (.bool ((bn bT 0).f0.f2))∧w'.cell? ⟨nD.block,nD.off + 3,none⟩=some (.int .u8 ((bn bT 0).f1))∧w'.cell? ⟨nD.block,nD.off + 4,none⟩=some (.int .i64 ((bn bT 0).f2))∧w'.cell? ⟨nD.block,nD.off + 5,none⟩=some (.int .i64 ((bn bT 0).f3))) (ds:=[]) #[false,false,false,false,false,false,false,false,false,false,false,false,false,false,false,false,false,false,false,false,false,false,false,false,false,false,false,false,false,false,false,false,false,false,false,false,false] au (by rfl) (by rfl) ⟨(af cG.out 0).trans rfl,(af cG.out 1).trans rfl,(af cG.out 2).trans rfl,(af cG.out 3).trans rfl,(af cG.out 4).trans rfl,(af cG.out 5).trans rfl,(af cG.out 6).trans rfl,(af cG.out 7).trans rfl,(af cG.out 8).trans rfl,(af gF.out 0).trans rfl,(af gF.out 1).trans rfl,(af gF.out 2).trans rfl,(af gF.out 3).trans rfl,(af gF.out 4).trans rfl,(af gF.out 5).trans rfl,(af gF.out 6).trans rfl,(af gF.out 7).trans rfl,(af gF.out 8).trans rfl,((HB.out.cell (World.block_lt_of_cell? w _ wC)).trans wC),((HB.out.cell (World.block_lt_of_cell? w _ wB)).trans wB),((HB.out.cell (World.block_lt_of_cell? w _ wA)).trans wA),((HB.out.cell (World.block_lt_of_cell? w _ wz)).trans wz),((HB.out.cell (World.block_lt_of_cell? w _ wu)).trans wu),((HB.out.cell (World.block_lt_of_cell? w _ wq)).trans wq),((HB.out.cell (World.block_lt_of_cell? w _ wI)).trans wI),((HB.out.cell (World.block_lt_of_cell? w _ wH)).trans wH),((HB.out.cell (World.block_lt_of_cell? w _ wG)).trans wG),((HB.out.cell (World.block_lt_of_cell? w _ wF)).trans wF),((HB.out.cell (World.block_lt_of_cell? w _ wE)).trans wE),((HB.out.cell (World.block_lt_of_cell? w _ wD)).trans wD)⟩ (fun hHeld=>?_);refine lG dV.OQ dV.Fp (fun dL sJ=>?_)
     generalize wO.drew=uz at cG gF HB tv tA tB tC tD tE tF tG tH tI tJ tK hHeld ⊢
     refine gv (i:=0) (N:=some 7) #[true,false,false,false,false,false,false,false,false,false,false,false,false,false,false,false,false,false,false,false,false,false,false,false,false,false,false,false,false,false,false,false,false,false,false,false,false] rfl rfl (fK dL.out sJ.out au) (fun _ _ _ h=>h) (Or.inl ⟨by rfl,uR⟩) hHeld cX ?_
     refine pq (i:=1) (N:=some 8) #[true,true,false,false,false,false,false,false,false,false,false,false,false,false,false,false,false,false,false,false,false,false,false,false,false,false,false,false,false,false,false,false,false,false,false,false,false] rfl rfl (kF dL.out au) bC (fun K hK=>?_)
     refine mH Tryz.func63 au rfl #[.agg #[.int .i64 bu,.bool true,.slice eK cQ.length eN,.string bL,.string bQ,.bool b9,.slice (some nD) bT.length dw,.slice eO cY.length eP,.int .i64 cg]] (by rfl) rfl rfl dM ?_
     with_reducible refine (dK.calls bu true _ _ cQ bL bQ b9 _ _ bT _ _ cY cg false _ ?bk ?bI ?cO ?ey ?gz ?gA A4.out).mono ?_
     (case bk=>repeat (exact (Kd.bU og.out HB.out)))
     (case bI=>exact om.out)
     (case cO=>repeat (exact (Kd.bU mQ.out HB.out)))
     (case ey=>exact nW.out)
     (case gz=>repeat (exact (Kd.bU xp.out HB.out)))
     (case gA=>exact xq.out)
     rintro e ud ⟨rfl,hb⟩
     refine ⟨_,rfl,?_⟩
     have jJ:=ah.mk (az tV hb)
     have jK:=ah.mk (az (g:=jG) (o:= .cells #[.int .i64 jh,.bool jL,.slice pP lW.length pQ,.string jB,.string ji,.bool jk,.slice nv je.length ny,.slice pR mJ.length pS,.int .i64 ke] 34 (0,0)) (by exact gF.out) hb)
     have lV:=ah.mk (av aI hb)
     clear cG
     clear gF
     clear HB
     have cG:=jJ
     have gF:=jK
     have HB:=lV
     clear jJ jK lV
     refine hK.out _ _ ⟨(af cG.out 0).trans rfl,(af cG.out 1).trans rfl,(af cG.out 2).trans rfl,(af cG.out 3).trans rfl,(af cG.out 4).trans rfl,(af cG.out 5).trans rfl,(af cG.out 6).trans rfl,(af cG.out 7).trans rfl,(af cG.out 8).trans rfl,(af gF.out 0).trans rfl,(af gF.out 1).trans rfl,(af gF.out 2).trans rfl,(af gF.out 3).trans rfl,(af gF.out 4).trans rfl,(af gF.out 5).trans rfl,(af gF.out 6).trans rfl,(af gF.out 7).trans rfl,(af gF.out 8).trans rfl,((HB.out.cell (World.block_lt_of_cell? w _ wC)).trans wC),((HB.out.cell (World.block_lt_of_cell? w _ wB)).trans wB),((HB.out.cell (World.block_lt_of_cell? w _ wA)).trans wA),((HB.out.cell (World.block_lt_of_cell? w _ wz)).trans wz),((HB.out.cell (World.block_lt_of_cell? w _ wu)).trans wu),((HB.out.cell (World.block_lt_of_cell? w _ wq)).trans wq),((HB.out.cell (World.block_lt_of_cell? w _ wI)).trans wI),((HB.out.cell (World.block_lt_of_cell? w _ wH)).trans wH),((HB.out.cell (World.block_lt_of_cell? w _ wG)).trans wG),((HB.out.cell (World.block_lt_of_cell? w _ wF)).trans wF),((HB.out.cell (World.block_lt_of_cell? w _ wE)).trans wE),((HB.out.cell (World.block_lt_of_cell? w _ wD)).trans wD)⟩ (fun hHeld=>?_)
     clear hK K
     refine kX (a':=?_) ?_ ?_
     rotate_left
     ·show Act.put _ (some 8) _=_
      simp only [Act.put,List.setIfInBounds_toArray,List.set_cons_zero,List.set_cons_succ,aY,aZ]
      rfl
     refine aQ (i:=2) (N:=some 9) #[true,true,true,false,false,false,false,false,false,false,false,false,false,false,false,false,false,false,false,false,false,false,false,false,false,false,false,false,false,false,false,false,false,false,false,false,false] rfl rfl (br dL.out au) (fun _ _ _ h=>h) (Or.inl ⟨by rfl,cJ⟩) cX ?_
     refine aQ (i:=3) (N:=some 10) #[true,true,true,true,false,false,false,false,false,false,false,false,false,false,false,false,false,false,false,false,false,false,false,false,false,false,false,false,false,false,false,false,false,false,false,false,false] rfl rfl (br dL.out au) (fun _ _ _ h=>h) (Or.inl ⟨by rfl,cJ⟩) cX ?_
     refine aQ (i:=4) (N:=some 11) #[true,true,true,true,true,false,false,false,false,false,false,false,false,false,false,false,false,false,false,false,false,false,false,false,false,false,false,false,false,false,false,false,false,false,false,false,false] rfl rfl (br dL.out au) (fun _ _ _ h=>h) (Or.inl ⟨by rfl,cJ⟩) cX ?_
     refine aQ (i:=6) (N:=some 13) #[true,true,true,true,true,false,true,false,false,false,false,false,false,false,false,false,false,false,false,false,false,false,false,false,false,false,false,false,false,false,false,false,false,false,false,false,false] rfl rfl (br dL.out au) (fun _ _ _ h=>h) (Or.inl ⟨by rfl,cJ⟩) cX ?_
     refine gv (i:=5) (N:=some 12) #[true,true,true,true,true,true,true,false,false,false,false,false,false,false,false,false,false,false,false,false,false,false,false,false,false,false,false,false,false,false,false,false,false,false,false,false,false] rfl rfl (fK dL.out sJ.out au) (fun _ _ _ h=>h) (Or.inl ⟨by rfl,uR⟩) hHeld cX ?_
     refine aQ (i:=7) (N:=some 14) #[true,true,true,true,true,true,true,true,false,false,false,false,false,false,false,false,false,false,false,false,false,false,false,false,false,false,false,false,false,false,false,false,false,false,false,false,false] rfl rfl (br dL.out au) (fun _ _ _ h=>h) (Or.inl ⟨by rfl,cJ⟩) cX ?_
     refine aQ (i:=8) (N:=some 15) #[true,true,true,true,true,true,true,true,true,false,false,false,false,false,false,false,false,false,false,false,false,false,false,false,false,false,false,false,false,false,false,false,false,false,false,false,false] rfl rfl (br dL.out au) (fun _ _ _ h=>h) (Or.inl ⟨by rfl,cJ⟩) cX ?_
     refine aQ (i:=9) (N:=some 16) #[true,true,true,true,true,true,true,true,true,true,false,false,false,false,false,false,false,false,false,false,false,false,false,false,false,false,false,false,false,false,false,false,false,false,false,false,false] rfl rfl (br dL.out au) (fun _ _ _ h=>h) (Or.inl ⟨by rfl,cJ⟩) cX ?_
     refine aQ (i:=10) (N:=some 17) #[true,true,true,true,true,true,true,true,true,true,true,false,false,false,false,false,false,false,false,false,false,false,false,false,false,false,false,false,false,false,false,false,false,false,false,false,false] rfl rfl (br dL.out au) (fun _ _ _ h=>h) (Or.inl ⟨by rfl,cJ⟩) cX ?_
     refine aQ (i:=11) (N:=some 18) #[true,true,true,true,true,true,true,true,true,true,true,true,false,false,false,false,false,false,false,false,false,false,false,false,false,false,false,false,false,false,false,false,false,false,false,false,false] rfl rfl (br dL.out au) (fun _ _ _ h=>h) (Or.inl ⟨by rfl,cJ⟩) cX ?_
     refine gv (i:=12) (N:=some 19) #[true,true,true,true,true,true,true,true,true,true,true,true,true,false,false,false,false,false,false,false,false,false,false,false,false,false,false,false,false,false,false,false,false,false,false,false,false] rfl rfl (fK dL.out sJ.out au) (fun _ _ _ h=>h) (Or.inl ⟨by rfl,uR⟩) hHeld cX ?_
     refine aQ (i:=13) (N:=some 20) #[true,true,true,true,true,true,true,true,true,true,true,true,true,true,false,false,false,false,false,false,false,false,false,false,false,false,false,false,false,false,false,false,false,false,false,false,false] rfl rfl (br dL.out au) (fun _ _ _ h=>h) (Or.inl ⟨by rfl,cJ⟩) cX ?_
     refine aQ (i:=14) (N:=some 21) #[true,true,true,true,true,true,true,true,true,true,true,true,true,true,true,false,false,false,false,false,false,false,false,false,false,false,false,false,false,false,false,false,false,false,false,false,false] rfl rfl (br dL.out au) (fun _ _ _ h=>h) (Or.inl ⟨by rfl,cJ⟩) cX ?_
     refine aQ (i:=15) (N:=some 22) #[true,true,true,true,true,true,true,true,true,true,true,true,true,true,true,true,false,false,false,false,false,false,false,false,false,false,false,false,false,false,false,false,false,false,false,false,false] rfl rfl (br dL.out au) (fun _ _ _ h=>h) (Or.inl ⟨by rfl,cJ⟩) cX ?_
     refine gv (i:=16) (N:=some 23) #[true,true,true,true,true,true,true,true,true,true,true,true,true,true,true,true,true,false,false,false,false,false,false,false,false,false,false,false,false,false,false,false,false,false,false,false,false] rfl rfl (fK dL.out sJ.out au) (fun _ _ _ h=>h) (Or.inl ⟨by rfl,uR⟩) hHeld cX ?_
     refine aQ (i:=17) (N:=some 24) #[true,true,true,true,true,true,true,true,true,true,true,true,true,true,true,true,true,true,false,false,false,false,false,false,false,false,false,false,false,false,false,false,false,false,false,false,false] rfl rfl (br dL.out au) (fun _ _ _ h=>h) (Or.inl ⟨by rfl,cJ⟩) cX ?_
     refine aQ (i:=18) (N:=some 25) #[true,true,true,true,true,true,true,true,true,true,true,true,true,true,true,true,true,true,true,false,false,false,false,false,false,false,false,false,false,false,false,false,false,false,false,false,false] rfl rfl (br dL.out au) (fun _ _ _ h=>h) (Or.inl ⟨by rfl,cJ⟩) cX ?_
     refine aQ (i:=19) (N:=some 26) #[true,true,true,true,true,true,true,true,true,true,true,true,true,true,true,true,true,true,true,true,false,false,false,false,false,false,false,false,false,false,false,false,false,false,false,false,false] rfl rfl (br dL.out au) (fun _ _ _ h=>h) (Or.inl ⟨by rfl,cJ⟩) cX ?_
     refine aQ (i:=20) (N:=some 27) #[true,true,true,true,true,true,true,true,true,true,true,true,true,true,true,true,true,true,true,true,true,false,false,false,false,false,false,false,false,false,false,false,false,false,false,false,false] rfl rfl (br dL.out au) (fun _ _ _ h=>h) (Or.inl ⟨by rfl,cJ⟩) cX ?_
     refine aQ (i:=21) (N:=some 28) #[true,true,true,true,true,true,true,true,true,true,true,true,true,true,true,true,true,true,true,true,true,true,false,false,false,false,false,false,false,false,false,false,false,false,false,false,false] rfl rfl (br dL.out au) (fun _ _ _ h=>h) (Or.inl ⟨by rfl,cJ⟩) cX ?_
     refine aQ (i:=25) (N:=some 32) #[true,true,true,true,true,true,true,true,true,true,true,true,true,true,true,true,true,true,true,true,true,true,false,false,false,true,false,false,false,false,false,false,false,false,false,false,false] rfl rfl (br dL.out au) (fun _ _ _ h=>h) (Or.inl ⟨by rfl,cJ⟩) cX ?_
     refine aQ (i:=26) (N:=some 33) #[true,true,true,true,true,true,true,true,true,true,true,true,true,true,true,true,true,true,true,true,true,true,false,false,false,true,true,false,false,false,false,false,false,false,false,false,false] rfl rfl (br dL.out au) (fun _ _ _ h=>h) (Or.inl ⟨by rfl,cJ⟩) cX ?_
     refine aQ (i:=28) (N:=some 35) #[true,true,true,true,true,true,true,true,true,true,true,true,true,true,true,true,true,true,true,true,true,true,false,false,false,true,true,false,true,false,false,false,false,false,false,false,false] rfl rfl (br dL.out au) (fun _ _ _ h=>h) (Or.inl ⟨by rfl,cJ⟩) cX ?_
     refine gv (i:=22) (N:=some 29) #[true,true,true,true,true,true,true,true,true,true,true,true,true,true,true,true,true,true,true,true,true,true,true,false,false,true,true,false,true,false,false,false,false,false,false,false,false] rfl rfl (fK dL.out sJ.out au) (fun _ _ _ h=>h) (Or.inl ⟨by rfl,uR⟩) hHeld cX ?_
     refine aQ (i:=23) (N:=some 30) #[true,true,true,true,true,true,true,true,true,true,true,true,true,true,true,true,true,true,true,true,true,true,true,true,false,true,true,false,true,false,false,false,false,false,false,false,false] rfl rfl (br dL.out au) (fun _ _ _ h=>h) (Or.inl ⟨by rfl,cJ⟩) cX ?_
     refine gv (i:=24) (N:=some 31) #[true,true,true,true,true,true,true,true,true,true,true,true,true,true,true,true,true,true,true,true,true,true,true,true,true,true,true,false,true,false,false,false,false,false,false,false,false] rfl rfl (fK dL.out sJ.out au) (fun _ _ _ h=>h) (Or.inl ⟨by rfl,uR⟩) hHeld cX ?_
     refine gv (i:=27) (N:=some 34) #[true,true,true,true,true,true,true,true,true,true,true,true,true,true,true,true,true,true,true,true,true,true,true,true,true,true,true,true,true,false,false,false,false,false,false,false,false] rfl rfl (fK dL.out sJ.out au) (fun _ _ _ h=>h) (Or.inl ⟨by rfl,uR⟩) hHeld cX ?_
     refine gv (i:=29) (N:=some 36) #[true,true,true,true,true,true,true,true,true,true,true,true,true,true,true,true,true,true,true,true,true,true,true,true,true,true,true,true,true,true,false,false,false,false,false,false,false] rfl rfl (fK dL.out sJ.out au) (fun _ _ _ h=>h) (Or.inl ⟨by rfl,uR⟩) hHeld cX ?_
     refine aQ (i:=30) (N:=some 37) #[true,true,true,true,true,true,true,true,true,true,true,true,true,true,true,true,true,true,true,true,true,true,true,true,true,true,true,true,true,true,true,false,false,false,false,false,false] rfl rfl (br dL.out au) (fun _ _ _ h=>h) (Or.inl ⟨by rfl,cJ⟩) cX ?_
     refine aQ (i:=31) (N:=some 38) #[true,true,true,true,true,true,true,true,true,true,true,true,true,true,true,true,true,true,true,true,true,true,true,true,true,true,true,true,true,true,true,true,false,false,false,false,false] rfl rfl (br dL.out au) (fun _ _ _ h=>h) (Or.inl ⟨by rfl,cJ⟩) cX ?_
     refine gv (i:=32) (N:=some 39) #[true,true,true,true,true,true,true,true,true,true,true,true,true,true,true,true,true,true,true,true,true,true,true,true,true,true,true,true,true,true,true,true,true,false,false,false,false] rfl rfl (fK dL.out sJ.out au) (fun _ _ _ h=>h) (Or.inl ⟨by rfl,uR⟩) hHeld cX ?_
     refine aQ (i:=33) (N:=some 40) #[true,true,true,true,true,true,true,true,true,true,true,true,true,true,true,true,true,true,true,true,true,true,true,true,true,true,true,true,true,true,true,true,true,true,false,false,false] rfl rfl (br dL.out au) (fun _ _ _ h=>h) (Or.inl ⟨by rfl,cJ⟩) cX ?_
     refine aQ (i:=34) (N:=some 41) #[true,true,true,true,true,true,true,true,true,true,true,true,true,true,true,true,true,true,true,true,true,true,true,true,true,true,true,true,true,true,true,true,true,true,true,false,false] rfl rfl (br dL.out au) (fun _ _ _ h=>h) (Or.inl ⟨by rfl,cJ⟩) cX ?_
     refine aQ (i:=35) (N:=some 42) #[true,true,true,true,true,true,true,true,true,true,true,true,true,true,true,true,true,true,true,true,true,true,true,true,true,true,true,true,true,true,true,true,true,true,true,true,false] rfl rfl (br dL.out au) (fun _ _ _ h=>h) (Or.inl ⟨by rfl,cJ⟩) cX ?_
     refine aQ (i:=36) (N:=some 6) #[true,true,true,true,true,true,true,true,true,true,true,true,true,true,true,true,true,true,true,true,true,true,true,true,true,true,true,true,true,true,true,true,true,true,true,true,true] rfl rfl (br dL.out au) (fun _ _ _ h=>h) (Or.inl ⟨by rfl,cJ⟩) cX ?_
     refine oU (o7 dL.out au) ?_
     try go_wp2
     go_ret
     exact ⟨by rfl,aI⟩
    ·rw [if_neg c12] at H
     have L8:=beq_eq_false_iff_ne.mpr c12
     have Xf:=bne_iff_ne.mpr c12
     obtain rfl:=Option.some.inj H
     go_enter Tryz.func106,Tryz.ntmps106
     try go_wp2_with (first|((with_reducible refine bw (N:=3) rfl ?_);(try (refine bO (by rfl) ?_;dsimp only));refine bA ?hg (N:=3) ?hd (cs:=#[.int .i64 bu,.bool true,.slice eK cQ.length eN,.string bL,.string bQ,.bool b9,.slice dA bT.length dw,.slice eO cY.length eP,.int .i64 cg]) (t:=34) ?hr ?_;(case hd=>rfl);(case hg=>rfl);(case hr=>(go_simp;done));intro fT hg sK bH hb;have cG:=ah.mk (bH);have TJ:=ah.mk ((bG:w.heap.size≤fT));have TK:=ah.mk ((bG:w.heap.size≤fT));replace HB:=ah.mk (av aI hb);clear hb bH hg)|((with_reducible refine bw (N:=4) rfl ?_);(try (refine bO (by rfl) ?_;dsimp only));refine bA ?hg (N:=4) ?hd (cs:=#[.int .i64 jh,.bool jL,.slice pP lW.length pQ,.string jB,.string ji,.bool jk,.slice nv je.length ny,.slice pR mJ.length pS,.int .i64 ke]) (t:=34) ?hr ?_;(case hd=>rfl);(case hg=>rfl);(case hr=>(go_simp;done));intro jG hg w19 bH hb;have gF:=ah.mk (bH);have TL:=ah.mk ((bG:w.heap.size≤jG));have TM:=ah.mk ((bG:w.heap.size≤jG));replace HB:=ah.mk (av aI hb);have yq:=ah.mk ((zA:fT≠jG));have yt:=ah.mk ((zB:jG≠fT));replace cG:=ah.mk (az tV hb);clear hb bH hg))
     have jJ:=ah.mk (iR cG.out)
     have jK:=ah.mk (iR gF.out)
     have lV:=ah.mk (gG HB.out)
     clear cG
     clear gF
     clear HB
     have cG:=jJ
     have gF:=jK
     have HB:=lV
     clear jJ jK lV
     refine lU (n:=37) (S:=fun w'=>w'.cell? ⟨fT,0,none⟩=some (.int .i64 bu)∧w'.cell? ⟨fT,1,none⟩=some (.bool true)∧w'.cell? ⟨fT,2,none⟩=some (.slice eK cQ.length eN)∧w'.cell? ⟨fT,3,none⟩=some (.string bL)∧w'.cell? ⟨fT,4,none⟩=some (.string bQ)∧w'.cell? ⟨fT,5,none⟩=some (.bool b9)∧w'.cell? ⟨fT,6,none⟩=some (.slice dA bT.length dw)∧w'.cell? ⟨fT,7,none⟩=some (.slice eO cY.length eP)∧w'.cell? ⟨fT,8,none⟩=some (.int .i64 cg)) (ds:=[]) #[false,false,false,false,false,false,false,false,false,false,false,false,false,false,false,false,false,false,false,false,false,false,false,false,false,false,false,false,false,false,false,false,false,false,false,false,false] au (by rfl) (by rfl) ⟨(af cG.out 0).trans rfl,(af cG.out 1).trans rfl,(af cG.out 2).trans rfl,(af cG.out 3).trans rfl,(af cG.out 4).trans rfl,(af cG.out 5).trans rfl,(af cG.out 6).trans rfl,(af cG.out 7).trans rfl,(af cG.out 8).trans rfl⟩ (fun hHeld=>?_);refine lG dV.OQ dV.Fp (fun dL sJ=>?_)
     generalize w19.drew=CN at cG gF HB hHeld ⊢
     refine gv (i:=0) (N:=some 7) #[true,false,false,false,false,false,false,false,false,false,false,false,false,false,false,false,false,false,false,false,false,false,false,false,false,false,false,false,false,false,false,false,false,false,false,false,false] rfl rfl (fK dL.out sJ.out au) (fun _ _ _ h=>h) (Or.inl ⟨by rfl,qA⟩) hHeld cX ?_
     refine pq (i:=1) (N:=some 8) #[true,true,false,false,false,false,false,false,false,false,false,false,false,false,false,false,false,false,false,false,false,false,false,false,false,false,false,false,false,false,false,false,false,false,false,false,false] rfl rfl (kF dL.out au) bC (fun K hK=>?_)
     refine mH Tryz.func63 au rfl #[.agg #[.int .i64 bu,.bool true,.slice eK cQ.length eN,.string bL,.string bQ,.bool b9,.slice dA bT.length dw,.slice eO cY.length eP,.int .i64 cg]] (by rfl) rfl rfl dM ?_
     with_reducible refine (dK.calls bu true _ _ cQ bL bQ b9 _ _ bT _ _ cY cg false _ ?bk ?bI ?cO ?ey ?gz ?gA A4.out).mono ?_
     (case bk=>repeat (exact (Kd.bU og.out HB.out)))
     (case bI=>exact om.out)
     (case cO=>repeat (exact (Kd.bU mQ.out HB.out)))
     (case ey=>exact nW.out)
     (case gz=>repeat (exact (Kd.bU xp.out HB.out)))
     (case gA=>exact xq.out)
     rintro e U2 ⟨rfl,hb⟩
     refine ⟨_,rfl,?_⟩
     have jJ:=ah.mk (az tV hb)
     have jK:=ah.mk (az (g:=jG) (o:= .cells #[.int .i64 jh,.bool jL,.slice pP lW.length pQ,.string jB,.string ji,.bool jk,.slice nv je.length ny,.slice pR mJ.length pS,.int .i64 ke] 34 (0,0)) (by exact gF.out) hb)
     have lV:=ah.mk (av aI hb)
     clear cG
     clear gF
     clear HB
     have cG:=jJ
     have gF:=jK
     have HB:=lV
     clear jJ jK lV
     refine hK.out _ _ ⟨(af cG.out 0).trans rfl,(af cG.out 1).trans rfl,(af cG.out 2).trans rfl,(af cG.out 3).trans rfl,(af cG.out 4).trans rfl,(af cG.out 5).trans rfl,(af cG.out 6).trans rfl,(af cG.out 7).trans rfl,(af cG.out 8).trans rfl⟩ (fun hHeld=>?_)
     clear hK K
     refine kX (a':=?_) ?_ ?_
     rotate_left
     ·show Act.put _ (some 8) _=_
      simp only [Act.put,List.setIfInBounds_toArray,List.set_cons_zero,List.set_cons_succ,aY,aZ]
      rfl
     refine aQ (i:=2) (N:=some 9) #[true,true,true,false,false,false,false,false,false,false,false,false,false,false,false,false,false,false,false,false,false,false,false,false,false,false,false,false,false,false,false,false,false,false,false,false,false] rfl rfl (br dL.out au) (fun _ _ _ h=>h) (Or.inl ⟨by rfl,cJ⟩) cX ?_
     refine aQ (i:=3) (N:=some 10) #[true,true,true,true,false,false,false,false,false,false,false,false,false,false,false,false,false,false,false,false,false,false,false,false,false,false,false,false,false,false,false,false,false,false,false,false,false] rfl rfl (br dL.out au) (fun _ _ _ h=>h) (Or.inl ⟨by rfl,cJ⟩) cX ?_
     refine aQ (i:=4) (N:=some 11) #[true,true,true,true,true,false,false,false,false,false,false,false,false,false,false,false,false,false,false,false,false,false,false,false,false,false,false,false,false,false,false,false,false,false,false,false,false] rfl rfl (br dL.out au) (fun _ _ _ h=>h) (Or.inl ⟨by rfl,cJ⟩) cX ?_
     refine aQ (i:=6) (N:=some 13) #[true,true,true,true,true,false,true,false,false,false,false,false,false,false,false,false,false,false,false,false,false,false,false,false,false,false,false,false,false,false,false,false,false,false,false,false,false] rfl rfl (br dL.out au) (fun _ _ _ h=>h) (Or.inl ⟨by rfl,cJ⟩) cX ?_
     refine gv (i:=5) (N:=some 12) #[true,true,true,true,true,true,true,false,false,false,false,false,false,false,false,false,false,false,false,false,false,false,false,false,false,false,false,false,false,false,false,false,false,false,false,false,false] rfl rfl (fK dL.out sJ.out au) (fun _ _ _ h=>h) (Or.inl ⟨by rfl,qA⟩) hHeld cX ?_
     refine aQ (i:=7) (N:=some 14) #[true,true,true,true,true,true,true,true,false,false,false,false,false,false,false,false,false,false,false,false,false,false,false,false,false,false,false,false,false,false,false,false,false,false,false,false,false] rfl rfl (br dL.out au) (fun _ _ _ h=>h) (Or.inl ⟨by rfl,cJ⟩) cX ?_
     refine aQ (i:=8) (N:=some 15) #[true,true,true,true,true,true,true,true,true,false,false,false,false,false,false,false,false,false,false,false,false,false,false,false,false,false,false,false,false,false,false,false,false,false,false,false,false] rfl rfl (br dL.out au) (fun _ _ _ h=>h) (Or.inl ⟨by rfl,cJ⟩) cX ?_
     refine aQ (i:=9) (N:=some 16) #[true,true,true,true,true,true,true,true,true,true,false,false,false,false,false,false,false,false,false,false,false,false,false,false,false,false,false,false,false,false,false,false,false,false,false,false,false] rfl rfl (br dL.out au) (fun _ _ _ h=>h) (Or.inl ⟨by rfl,cJ⟩) cX ?_
     refine aQ (i:=10) (N:=some 17) #[true,true,true,true,true,true,true,true,true,true,true,false,false,false,false,false,false,false,false,false,false,false,false,false,false,false,false,false,false,false,false,false,false,false,false,false,false] rfl rfl (br dL.out au) (fun _ _ _ h=>h) (Or.inl ⟨by rfl,cJ⟩) cX ?_
     refine aQ (i:=11) (N:=some 18) #[true,true,true,true,true,true,true,true,true,true,true,true,false,false,false,false,false,false,false,false,false,false,false,false,false,false,false,false,false,false,false,false,false,false,false,false,false] rfl rfl (br dL.out au) (fun _ _ _ h=>h) (Or.inl ⟨by rfl,cJ⟩) cX ?_
     refine gv (i:=12) (N:=some 19) #[true,true,true,true,true,true,true,true,true,true,true,true,true,false,false,false,false,false,false,false,false,false,false,false,false,false,false,false,false,false,false,false,false,false,false,false,false] rfl rfl (fK dL.out sJ.out au) (fun _ _ _ h=>h) (Or.inl ⟨by rfl,qA⟩) hHeld cX ?_
     refine aQ (i:=13) (N:=some 20) #[true,true,true,true,true,true,true,true,true,true,true,true,true,true,false,false,false,false,false,false,false,false,false,false,false,false,false,false,false,false,false,false,false,false,false,false,false] rfl rfl (br dL.out au) (fun _ _ _ h=>h) (Or.inl ⟨by rfl,cJ⟩) cX ?_
     refine aQ (i:=14) (N:=some 21) #[true,true,true,true,true,true,true,true,true,true,true,true,true,true,true,false,false,false,false,false,false,false,false,false,false,false,false,false,false,false,false,false,false,false,false,false,false] rfl rfl (br dL.out au) (fun _ _ _ h=>h) (Or.inl ⟨by rfl,cJ⟩) cX ?_
     refine aQ (i:=15) (N:=some 22) #[true,true,true,true,true,true,true,true,true,true,true,true,true,true,true,true,false,false,false,false,false,false,false,false,false,false,false,false,false,false,false,false,false,false,false,false,false] rfl rfl (br dL.out au) (fun _ _ _ h=>h) (Or.inl ⟨by rfl,cJ⟩) cX ?_
     refine gv (i:=16) (N:=some 23) #[true,true,true,true,true,true,true,true,true,true,true,true,true,true,true,true,true,false,false,false,false,false,false,false,false,false,false,false,false,false,false,false,false,false,false,false,false] rfl rfl (fK dL.out sJ.out au) (fun _ _ _ h=>h) (Or.inl ⟨by rfl,qA⟩) hHeld cX ?_
     refine aQ (i:=17) (N:=some 24) #[true,true,true,true,true,true,true,true,true,true,true,true,true,true,true,true,true,true,false,false,false,false,false,false,false,false,false,false,false,false,false,false,false,false,false,false,false] rfl rfl (br dL.out au) (fun _ _ _ h=>h) (Or.inl ⟨by rfl,cJ⟩) cX ?_
     refine aQ (i:=18) (N:=some 25) #[true,true,true,true,true,true,true,true,true,true,true,true,true,true,true,true,true,true,true,false,false,false,false,false,false,false,false,false,false,false,false,false,false,false,false,false,false] rfl rfl (br dL.out au) (fun _ _ _ h=>h) (Or.inl ⟨by rfl,cJ⟩) cX ?_
     refine aQ (i:=19) (N:=some 26) #[true,true,true,true,true,true,true,true,true,true,true,true,true,true,true,true,true,true,true,true,false,false,false,false,false,false,false,false,false,false,false,false,false,false,false,false,false] rfl rfl (br dL.out au) (fun _ _ _ h=>h) (Or.inl ⟨by rfl,cJ⟩) cX ?_
     refine aQ (i:=20) (N:=some 27) #[true,true,true,true,true,true,true,true,true,true,true,true,true,true,true,true,true,true,true,true,true,false,false,false,false,false,false,false,false,false,false,false,false,false,false,false,false] rfl rfl (br dL.out au) (fun _ _ _ h=>h) (Or.inl ⟨by rfl,cJ⟩) cX ?_
     refine aQ (i:=21) (N:=some 28) (v:=undef) (a':=?_) #[true,true,true,true,true,true,true,true,true,true,true,true,true,true,true,true,true,true,true,true,true,true,false,false,false,false,false,false,false,false,false,false,false,false,false,false,false] rfl rfl (br dL.out au) (fun _ _ _ h=>h) (Or.inr ⟨by rfl,rfl⟩) ?_ ?_
     rotate_left
     ·simp only [Act.put,List.setIfInBounds_toArray,List.set_cons_zero,List.set_cons_succ,aY,aZ]
      rfl
     refine aQ (i:=22) (N:=some 29) (v:=undef) (a':=?_) #[true,true,true,true,true,true,true,true,true,true,true,true,true,true,true,true,true,true,true,true,true,true,true,false,false,false,false,false,false,false,false,false,false,false,false,false,false] rfl rfl (br dL.out au) (fun _ _ _ h=>h) (Or.inr ⟨by rfl,rfl⟩) ?_ ?_
     rotate_left
     ·simp only [Act.put,List.setIfInBounds_toArray,List.set_cons_zero,List.set_cons_succ,aY,aZ]
      rfl
     refine aQ (i:=23) (N:=some 30) (v:=undef) (a':=?_) #[true,true,true,true,true,true,true,true,true,true,true,true,true,true,true,true,true,true,true,true,true,true,true,true,false,false,false,false,false,false,false,false,false,false,false,false,false] rfl rfl (br dL.out au) (fun _ _ _ h=>h) (Or.inr ⟨by rfl,rfl⟩) ?_ ?_
     rotate_left
     ·simp only [Act.put,List.setIfInBounds_toArray,List.set_cons_zero,List.set_cons_succ,aY,aZ]
      rfl
     refine aQ (i:=24) (N:=some 31) (v:=undef) (a':=?_) #[true,true,true,true,true,true,true,true,true,true,true,true,true,true,true,true,true,true,true,true,true,true,true,true,true,false,false,false,false,false,false,false,false,false,false,false,false] rfl rfl (br dL.out au) (fun _ _ _ h=>h) (Or.inr ⟨by rfl,rfl⟩) ?_ ?_
     rotate_left
     ·simp only [Act.put,List.setIfInBounds_toArray,List.set_cons_zero,List.set_cons_succ,aY,aZ]
      rfl
     refine aQ (i:=25) (N:=some 32) (v:=undef) (a':=?_) #[true,true,true,true,true,true,true,true,true,true,true,true,true,true,true,true,true,true,true,true,true,true,true,true,true,true,false,false,false,false,false,false,false,false,false,false,false] rfl rfl (br dL.out au) (fun _ _ _ h=>h) (Or.inr ⟨by rfl,rfl⟩) ?_ ?_
     rotate_left
     ·simp only [Act.put,List.setIfInBounds_toArray,List.set_cons_zero,List.set_cons_succ,aY,aZ]
      rfl
     refine aQ (i:=26) (N:=some 33) (v:=undef) (a':=?_) #[true,true,true,true,true,true,true,true,true,true,true,true,true,true,true,true,true,true,true,true,true,true,true,true,true,true,true,false,false,false,false,false,false,false,false,false,false] rfl rfl (br dL.out au) (fun _ _ _ h=>h) (Or.inr ⟨by rfl,rfl⟩) ?_ ?_
     rotate_left
     ·simp only [Act.put,List.setIfInBounds_toArray,List.set_cons_zero,List.set_cons_succ,aY,aZ]
      rfl
     refine aQ (i:=27) (N:=some 34) (v:=undef) (a':=?_) #[true,true,true,true,true,true,true,true,true,true,true,true,true,true,true,true,true,true,true,true,true,true,true,true,true,true,true,true,false,false,false,false,false,false,false,false,false] rfl rfl (br dL.out au) (fun _ _ _ h=>h) (Or.inr ⟨by rfl,rfl⟩) ?_ ?_
     rotate_left
     ·simp only [Act.put,List.setIfInBounds_toArray,List.set_cons_zero,List.set_cons_succ,aY,aZ]
      rfl
     refine aQ (i:=28) (N:=some 35) (v:=undef) (a':=?_) #[true,true,true,true,true,true,true,true,true,true,true,true,true,true,true,true,true,true,true,true,true,true,true,true,true,true,true,true,true,false,false,false,false,false,false,false,false] rfl rfl (br dL.out au) (fun _ _ _ h=>h) (Or.inr ⟨by rfl,rfl⟩) ?_ ?_
     rotate_left
     ·simp only [Act.put,List.setIfInBounds_toArray,List.set_cons_zero,List.set_cons_succ,aY,aZ]
      rfl
     refine aQ (i:=29) (N:=some 36) (v:=undef) (a':=?_) #[true,true,true,true,true,true,true,true,true,true,true,true,true,true,true,true,true,true,true,true,true,true,true,true,true,true,true,true,true,true,false,false,false,false,false,false,false] rfl rfl (br dL.out au) (fun _ _ _ h=>h) (Or.inr ⟨by rfl,rfl⟩) ?_ ?_
     rotate_left
     ·simp only [Act.put,List.setIfInBounds_toArray,List.set_cons_zero,List.set_cons_succ,aY,aZ]
      rfl
     refine aQ (i:=30) (N:=some 37) (v:=undef) (a':=?_) #[true,true,true,true,true,true,true,true,true,true,true,true,true,true,true,true,true,true,true,true,true,true,true,true,true,true,true,true,true,true,true,false,false,false,false,false,false] rfl rfl (br dL.out au) (fun _ _ _ h=>h) (Or.inr ⟨by rfl,rfl⟩) ?_ ?_
     rotate_left
     ·simp only [Act.put,List.setIfInBounds_toArray,List.set_cons_zero,List.set_cons_succ,aY,aZ]
      rfl
     refine aQ (i:=31) (N:=some 38) (v:=undef) (a':=?_) #[true,true,true,true,true,true,true,true,true,true,true,true,true,true,true,true,true,true,true,true,true,true,true,true,true,true,true,true,true,true,true,true,false,false,false,false,false] rfl rfl (br dL.out au) (fun _ _ _ h=>h) (Or.inr ⟨by rfl,rfl⟩) ?_ ?_
     rotate_left
     ·simp only [Act.put,List.setIfInBounds_toArray,List.set_cons_zero,List.set_cons_succ,aY,aZ]
      rfl
     refine aQ (i:=32) (N:=some 39) (v:=undef) (a':=?_) #[true,true,true,true,true,true,true,true,true,true,true,true,true,true,true,true,true,true,true,true,true,true,true,true,true,true,true,true,true,true,true,true,true,false,false,false,false] rfl rfl (br dL.out au) (fun _ _ _ h=>h) (Or.inr ⟨by rfl,rfl⟩) ?_ ?_
     rotate_left
     ·simp only [Act.put,List.setIfInBounds_toArray,List.set_cons_zero,List.set_cons_succ,aY,aZ]
      rfl
     refine aQ (i:=33) (N:=some 40) (v:=undef) (a':=?_) #[true,true,true,true,true,true,true,true,true,true,true,true,true,true,true,true,true,true,true,true,true,true,true,true,true,true,true,true,true,true,true,true,true,true,false,false,false] rfl rfl (br dL.out au) (fun _ _ _ h=>h) (Or.inr ⟨by rfl,rfl⟩) ?_ ?_
     rotate_left
     ·simp only [Act.put,List.setIfInBounds_toArray,List.set_cons_zero,List.set_cons_succ,aY,aZ]
      rfl
     refine aQ (i:=34) (N:=some 41) (v:=undef) (a':=?_) #[true,true,true,true,true,true,true,true,true,true,true,true,true,true,true,true,true,true,true,true,true,true,true,true,true,true,true,true,true,true,true,true,true,true,true,false,false] rfl rfl (br dL.out au) (fun _ _ _ h=>h) (Or.inr ⟨by rfl,rfl⟩) ?_ ?_
     rotate_left
     ·simp only [Act.put,List.setIfInBounds_toArray,List.set_cons_zero,List.set_cons_succ,aY,aZ]
      rfl
     refine aQ (i:=35) (N:=some 42) #[true,true,true,true,true,true,true,true,true,true,true,true,true,true,true,true,true,true,true,true,true,true,true,true,true,true,true,true,true,true,true,true,true,true,true,true,false] rfl rfl (br dL.out au) (fun _ _ _ h=>h) (Or.inl ⟨by rfl,cJ⟩) cX ?_
     refine aQ (i:=36) (N:=some 6) #[true,true,true,true,true,true,true,true,true,true,true,true,true,true,true,true,true,true,true,true,true,true,true,true,true,true,true,true,true,true,true,true,true,true,true,true,true] rfl rfl (br dL.out au) (fun _ _ _ h=>h) (Or.inl ⟨by rfl,cJ⟩) cX ?_
     refine oU (o7 dL.out au) ?_
     try go_wp2
     go_ret
     exact ⟨by rfl,aI⟩
   ·replace c11:=Bool.eq_false_iff.mpr c11
    subst c11
    rw [if_neg (show ¬ (false=true) by decide)] at H
    obtain rfl:=Option.some.inj H
    go_enter Tryz.func106,Tryz.ntmps106
    try go_wp2_with (first|((with_reducible refine bw (N:=3) rfl ?_);(try (refine bO (by rfl) ?_;dsimp only));refine bA ?hg (N:=3) ?hd (cs:=#[.int .i64 bu,.bool false,.slice eK cQ.length eN,.string bL,.string bQ,.bool b9,.slice dA bT.length dw,.slice eO cY.length eP,.int .i64 cg]) (t:=34) ?hr ?_;(case hd=>rfl);(case hg=>rfl);(case hr=>(go_simp;done));intro fT hg Y1 bH hb;have cG:=ah.mk (bH);have TJ:=ah.mk ((bG:w.heap.size≤fT));have TK:=ah.mk ((bG:w.heap.size≤fT));replace HB:=ah.mk (av aI hb);clear hb bH hg)|((with_reducible refine bw (N:=4) rfl ?_);(try (refine bO (by rfl) ?_;dsimp only));refine bA ?hg (N:=4) ?hd (cs:=#[.int .i64 jh,.bool jL,.slice pP lW.length pQ,.string jB,.string ji,.bool jk,.slice nv je.length ny,.slice pR mJ.length pS,.int .i64 ke]) (t:=34) ?hr ?_;(case hd=>rfl);(case hg=>rfl);(case hr=>(go_simp;done));intro jG hg sI bH hb;have gF:=ah.mk (bH);have TL:=ah.mk ((bG:w.heap.size≤jG));have TM:=ah.mk ((bG:w.heap.size≤jG));replace HB:=ah.mk (av aI hb);have yq:=ah.mk ((zA:fT≠jG));have yt:=ah.mk ((zB:jG≠fT));replace cG:=ah.mk (az tV hb);clear hb bH hg))
    have jJ:=ah.mk (iR cG.out)
    have jK:=ah.mk (iR gF.out)
    have lV:=ah.mk (gG HB.out)
    clear cG
    clear gF
    clear HB
    have cG:=jJ
    have gF:=jK
    have HB:=lV
    clear jJ jK lV
    refine lU (n:=37) (S:=fun w'=>w'.cell? ⟨fT,0,none⟩=some (.int .i64 bu)∧w'.cell? ⟨fT,1,none⟩=some (.bool false)∧w'.cell? ⟨fT,2,none⟩=some (.slice eK cQ.length eN)∧w'.cell? ⟨fT,3,none⟩=some (.string bL)∧w'.cell? ⟨fT,4,none⟩=some (.string bQ)∧w'.cell? ⟨fT,5,none⟩=some (.bool b9)∧w'.cell? ⟨fT,6,none⟩=some (.slice dA bT.length dw)∧w'.cell? ⟨fT,7,none⟩=some (.slice eO cY.length eP)∧w'.cell? ⟨fT,8,none⟩=some (.int .i64 cg)) (ds:=[]) #[false,false,false,false,false,false,false,false,false,false,false,false,false,false,false,false,false,false,false,false,false,false,false,false,false,false,false,false,false,false,false,false,false,false,false,false,false] au (by rfl) (by rfl) ⟨(af cG.out 0).trans rfl,(af cG.out 1).trans rfl,(af cG.out 2).trans rfl,(af cG.out 3).trans rfl,(af cG.out 4).trans rfl,(af cG.out 5).trans rfl,(af cG.out 6).trans rfl,(af cG.out 7).trans rfl,(af cG.out 8).trans rfl⟩ (fun hHeld=>?_);refine lG dV.OQ dV.Fp (fun dL sJ=>?_)
    generalize sI.drew=zk at cG gF HB hHeld ⊢
    refine gv (i:=0) (N:=some 7) #[true,false,false,false,false,false,false,false,false,false,false,false,false,false,false,false,false,false,false,false,false,false,false,false,false,false,false,false,false,false,false,false,false,false,false,false,false] rfl rfl (fK dL.out sJ.out au) (fun _ _ _ h=>h) (Or.inl ⟨by rfl,qA⟩) hHeld cX ?_
    refine pq (i:=1) (N:=some 8) #[true,true,false,false,false,false,false,false,false,false,false,false,false,false,false,false,false,false,false,false,false,false,false,false,false,false,false,false,false,false,false,false,false,false,false,false,false] rfl rfl (kF dL.out au) bC (fun K hK=>?_)
    refine mH Tryz.func63 au rfl #[.agg #[.int .i64 bu,.bool false,.slice eK cQ.length eN,.string bL,.string bQ,.bool b9,.slice dA bT.length dw,.slice eO cY.length eP,.int .i64 cg]] (by rfl) rfl rfl dM ?_
    with_reducible refine (dK.calls bu false _ _ cQ bL bQ b9 _ _ bT _ _ cY cg false _ ?bk ?bI ?cO ?ey ?gz ?gA A4.out).mono ?_
    (case bk=>repeat (exact (Kd.bU og.out HB.out)))
    (case bI=>exact om.out)
    (case cO=>repeat (exact (Kd.bU mQ.out HB.out)))
    (case ey=>exact nW.out)
    (case gz=>repeat (exact (Kd.bU xp.out HB.out)))
    (case gA=>exact xq.out)
    rintro e w25 ⟨rfl,hb⟩
    refine ⟨_,rfl,?_⟩
    have jJ:=ah.mk (az tV hb)
    have jK:=ah.mk (az (g:=jG) (o:= .cells #[.int .i64 jh,.bool jL,.slice pP lW.length pQ,.string jB,.string ji,.bool jk,.slice nv je.length ny,.slice pR mJ.length pS,.int .i64 ke] 34 (0,0)) (by exact gF.out) hb)
    have lV:=ah.mk (av aI hb)
    clear cG
    clear gF
    clear HB
    have cG:=jJ
    have gF:=jK
    have HB:=lV
    clear jJ jK lV
    refine hK.out _ _ ⟨(af cG.out 0).trans rfl,(af cG.out 1).trans rfl,(af cG.out 2).trans rfl,(af cG.out 3).trans rfl,(af cG.out 4).trans rfl,(af cG.out 5).trans rfl,(af cG.out 6).trans rfl,(af cG.out 7).trans rfl,(af cG.out 8).trans rfl⟩ (fun hHeld=>?_)
    clear hK K
    refine kX (a':=?_) ?_ ?_
    rotate_left
    ·show Act.put _ (some 8) _=_
     simp only [Act.put,List.setIfInBounds_toArray,List.set_cons_zero,List.set_cons_succ,aY,aZ]
     rfl
    refine aQ (i:=2) (N:=some 9) #[true,true,true,false,false,false,false,false,false,false,false,false,false,false,false,false,false,false,false,false,false,false,false,false,false,false,false,false,false,false,false,false,false,false,false,false,false] rfl rfl (br dL.out au) (fun _ _ _ h=>h) (Or.inl ⟨by rfl,cJ⟩) cX ?_
    refine aQ (i:=3) (N:=some 10) #[true,true,true,true,false,false,false,false,false,false,false,false,false,false,false,false,false,false,false,false,false,false,false,false,false,false,false,false,false,false,false,false,false,false,false,false,false] rfl rfl (br dL.out au) (fun _ _ _ h=>h) (Or.inl ⟨by rfl,cJ⟩) cX ?_
    refine aQ (i:=4) (N:=some 11) #[true,true,true,true,true,false,false,false,false,false,false,false,false,false,false,false,false,false,false,false,false,false,false,false,false,false,false,false,false,false,false,false,false,false,false,false,false] rfl rfl (br dL.out au) (fun _ _ _ h=>h) (Or.inl ⟨by rfl,cJ⟩) cX ?_
    refine aQ (i:=6) (N:=some 13) #[true,true,true,true,true,false,true,false,false,false,false,false,false,false,false,false,false,false,false,false,false,false,false,false,false,false,false,false,false,false,false,false,false,false,false,false,false] rfl rfl (br dL.out au) (fun _ _ _ h=>h) (Or.inl ⟨by rfl,cJ⟩) cX ?_
    refine gv (i:=5) (N:=some 12) #[true,true,true,true,true,true,true,false,false,false,false,false,false,false,false,false,false,false,false,false,false,false,false,false,false,false,false,false,false,false,false,false,false,false,false,false,false] rfl rfl (fK dL.out sJ.out au) (fun _ _ _ h=>h) (Or.inl ⟨by rfl,qA⟩) hHeld cX ?_
    refine aQ (i:=7) (N:=some 14) #[true,true,true,true,true,true,true,true,false,false,false,false,false,false,false,false,false,false,false,false,false,false,false,false,false,false,false,false,false,false,false,false,false,false,false,false,false] rfl rfl (br dL.out au) (fun _ _ _ h=>h) (Or.inl ⟨by rfl,cJ⟩) cX ?_
    refine aQ (i:=8) (N:=some 15) #[true,true,true,true,true,true,true,true,true,false,false,false,false,false,false,false,false,false,false,false,false,false,false,false,false,false,false,false,false,false,false,false,false,false,false,false,false] rfl rfl (br dL.out au) (fun _ _ _ h=>h) (Or.inl ⟨by rfl,cJ⟩) cX ?_
    refine aQ (i:=9) (N:=some 16) #[true,true,true,true,true,true,true,true,true,true,false,false,false,false,false,false,false,false,false,false,false,false,false,false,false,false,false,false,false,false,false,false,false,false,false,false,false] rfl rfl (br dL.out au) (fun _ _ _ h=>h) (Or.inl ⟨by rfl,cJ⟩) cX ?_
    refine aQ (i:=10) (N:=some 17) #[true,true,true,true,true,true,true,true,true,true,true,false,false,false,false,false,false,false,false,false,false,false,false,false,false,false,false,false,false,false,false,false,false,false,false,false,false] rfl rfl (br dL.out au) (fun _ _ _ h=>h) (Or.inl ⟨by rfl,cJ⟩) cX ?_
    refine aQ (i:=11) (N:=some 18) #[true,true,true,true,true,true,true,true,true,true,true,true,false,false,false,false,false,false,false,false,false,false,false,false,false,false,false,false,false,false,false,false,false,false,false,false,false] rfl rfl (br dL.out au) (fun _ _ _ h=>h) (Or.inl ⟨by rfl,cJ⟩) cX ?_
    refine gv (i:=12) (N:=some 19) #[true,true,true,true,true,true,true,true,true,true,true,true,true,false,false,false,false,false,false,false,false,false,false,false,false,false,false,false,false,false,false,false,false,false,false,false,false] rfl rfl (fK dL.out sJ.out au) (fun _ _ _ h=>h) (Or.inl ⟨by rfl,qA⟩) hHeld cX ?_
    refine aQ (i:=13) (N:=some 20) #[true,true,true,true,true,true,true,true,true,true,true,true,true,true,false,false,false,false,false,false,false,false,false,false,false,false,false,false,false,false,false,false,false,false,false,false,false] rfl rfl (br dL.out au) (fun _ _ _ h=>h) (Or.inl ⟨by rfl,cJ⟩) cX ?_
    refine aQ (i:=14) (N:=some 21) #[true,true,true,true,true,true,true,true,true,true,true,true,true,true,true,false,false,false,false,false,false,false,false,false,false,false,false,false,false,false,false,false,false,false,false,false,false] rfl rfl (br dL.out au) (fun _ _ _ h=>h) (Or.inl ⟨by rfl,cJ⟩) cX ?_
    refine aQ (i:=15) (N:=some 22) (v:=undef) (a':=?_) #[true,true,true,true,true,true,true,true,true,true,true,true,true,true,true,true,false,false,false,false,false,false,false,false,false,false,false,false,false,false,false,false,false,false,false,false,false] rfl rfl (br dL.out au) (fun _ _ _ h=>h) (Or.inr ⟨by rfl,rfl⟩) ?_ ?_
    rotate_left
    ·simp only [Act.put,List.setIfInBounds_toArray,List.set_cons_zero,List.set_cons_succ,aY,aZ]
     rfl
    refine aQ (i:=16) (N:=some 23) (v:=undef) (a':=?_) #[true,true,true,true,true,true,true,true,true,true,true,true,true,true,true,true,true,false,false,false,false,false,false,false,false,false,false,false,false,false,false,false,false,false,false,false,false] rfl rfl (br dL.out au) (fun _ _ _ h=>h) (Or.inr ⟨by rfl,rfl⟩) ?_ ?_
    rotate_left
    ·simp only [Act.put,List.setIfInBounds_toArray,List.set_cons_zero,List.set_cons_succ,aY,aZ]
     rfl
    refine aQ (i:=17) (N:=some 24) (v:=undef) (a':=?_) #[true,true,true,true,true,true,true,true,true,true,true,true,true,true,true,true,true,true,false,false,false,false,false,false,false,false,false,false,false,false,false,false,false,false,false,false,false] rfl rfl (br dL.out au) (fun _ _ _ h=>h) (Or.inr ⟨by rfl,rfl⟩) ?_ ?_
    rotate_left
    ·simp only [Act.put,List.setIfInBounds_toArray,List.set_cons_zero,List.set_cons_succ,aY,aZ]
     rfl
    refine aQ (i:=18) (N:=some 25) (v:=undef) (a':=?_) #[true,true,true,true,true,true,true,true,true,true,true,true,true,true,true,true,true,true,true,false,false,false,false,false,false,false,false,false,false,false,false,false,false,false,false,false,false] rfl rfl (br dL.out au) (fun _ _ _ h=>h) (Or.inr ⟨by rfl,rfl⟩) ?_ ?_
    rotate_left
    ·simp only [Act.put,List.setIfInBounds_toArray,List.set_cons_zero,List.set_cons_succ,aY,aZ]
     rfl
    refine aQ (i:=19) (N:=some 26) #[true,true,true,true,true,true,true,true,true,true,true,true,true,true,true,true,true,true,true,true,false,false,false,false,false,false,false,false,false,false,false,false,false,false,false,false,false] rfl rfl (br dL.out au) (fun _ _ _ h=>h) (Or.inl ⟨by rfl,cJ⟩) cX ?_
    refine aQ (i:=20) (N:=some 27) #[true,true,true,true,true,true,true,true,true,true,true,true,true,true,true,true,true,true,true,true,true,false,false,false,false,false,false,false,false,false,false,false,false,false,false,false,false] rfl rfl (br dL.out au) (fun _ _ _ h=>h) (Or.inl ⟨by rfl,cJ⟩) cX ?_
    refine aQ (i:=21) (N:=some 28) (v:=undef) (a':=?_) #[true,true,true,true,true,true,true,true,true,true,true,true,true,true,true,true,true,true,true,true,true,true,false,false,false,false,false,false,false,false,false,false,false,false,false,false,false] rfl rfl (br dL.out au) (fun _ _ _ h=>h) (Or.inr ⟨by rfl,rfl⟩) ?_ ?_
    rotate_left
    ·simp only [Act.put,List.setIfInBounds_toArray,List.set_cons_zero,List.set_cons_succ,aY,aZ]
     rfl
    refine aQ (i:=22) (N:=some 29) (v:=undef) (a':=?_) #[true,true,true,true,true,true,true,true,true,true,true,true,true,true,true,true,true,true,true,true,true,true,true,false,false,false,false,false,false,false,false,false,false,false,false,false,false] rfl rfl (br dL.out au) (fun _ _ _ h=>h) (Or.inr ⟨by rfl,rfl⟩) ?_ ?_
    rotate_left
    ·simp only [Act.put,List.setIfInBounds_toArray,List.set_cons_zero,List.set_cons_succ,aY,aZ]
     rfl
    refine aQ (i:=23) (N:=some 30) (v:=undef) (a':=?_) #[true,true,true,true,true,true,true,true,true,true,true,true,true,true,true,true,true,true,true,true,true,true,true,true,false,false,false,false,false,false,false,false,false,false,false,false,false] rfl rfl (br dL.out au) (fun _ _ _ h=>h) (Or.inr ⟨by rfl,rfl⟩) ?_ ?_
    rotate_left
    ·simp only [Act.put,List.setIfInBounds_toArray,List.set_cons_zero,List.set_cons_succ,aY,aZ]
     rfl
    refine aQ (i:=24) (N:=some 31) (v:=undef) (a':=?_) #[true,true,true,true,true,true,true,true,true,true,true,true,true,true,true,true,true,true,true,true,true,true,true,true,true,false,false,false,false,false,false,false,false,false,false,false,false] rfl rfl (br dL.out au) (fun _ _ _ h=>h) (Or.inr ⟨by rfl,rfl⟩) ?_ ?_
    rotate_left
    ·simp only [Act.put,List.setIfInBounds_toArray,List.set_cons_zero,List.set_cons_succ,aY,aZ]
     rfl
    refine aQ (i:=25) (N:=some 32) (v:=undef) (a':=?_) #[true,true,true,true,true,true,true,true,true,true,true,true,true,true,true,true,true,true,true,true,true,true,true,true,true,true,false,false,false,false,false,false,false,false,false,false,false] rfl rfl (br dL.out au) (fun _ _ _ h=>h) (Or.inr ⟨by rfl,rfl⟩) ?_ ?_
    rotate_left
    ·simp only [Act.put,List.setIfInBounds_toArray,List.set_cons_zero,List.set_cons_succ,aY,aZ]
     rfl
    refine aQ (i:=26) (N:=some 33) (v:=undef) (a':=?_) #[true,true,true,true,true,true,true,true,true,true,true,true,true,true,true,true,true,true,true,true,true,true,true,true,true,true,true,false,false,false,false,false,false,false,false,false,false] rfl rfl (br dL.out au) (fun _ _ _ h=>h) (Or.inr ⟨by rfl,rfl⟩) ?_ ?_
    rotate_left
    ·simp only [Act.put,List.setIfInBounds_toArray,List.set_cons_zero,List.set_cons_succ,aY,aZ]
     rfl
    refine aQ (i:=27) (N:=some 34) (v:=undef) (a':=?_) #[true,true,true,true,true,true,true,true,true,true,true,true,true,true,true,true,true,true,true,true,true,true,true,true,true,true,true,true,false,false,false,false,false,false,false,false,false] rfl rfl (br dL.out au) (fun _ _ _ h=>h) (Or.inr ⟨by rfl,rfl⟩) ?_ ?_
    rotate_left
    ·simp only [Act.put,List.setIfInBounds_toArray,List.set_cons_zero,List.set_cons_succ,aY,aZ]
     rfl
    refine aQ (i:=28) (N:=some 35) (v:=undef) (a':=?_) #[true,true,true,true,true,true,true,true,true,true,true,true,true,true,true,true,true,true,true,true,true,true,true,true,true,true,true,true,true,false,false,false,false,false,false,false,false] rfl rfl (br dL.out au) (fun _ _ _ h=>h) (Or.inr ⟨by rfl,rfl⟩) ?_ ?_
    rotate_left
    ·simp only [Act.put,List.setIfInBounds_toArray,List.set_cons_zero,List.set_cons_succ,aY,aZ]
     rfl
    refine aQ (i:=29) (N:=some 36) (v:=undef) (a':=?_) #[true,true,true,true,true,true,true,true,true,true,true,true,true,true,true,true,true,true,true,true,true,true,true,true,true,true,true,true,true,true,false,false,false,false,false,false,false] rfl rfl (br dL.out au) (fun _ _ _ h=>h) (Or.inr ⟨by rfl,rfl⟩) ?_ ?_
    rotate_left
    ·simp only [Act.put,List.setIfInBounds_toArray,List.set_cons_zero,List.set_cons_succ,aY,aZ]
     rfl
    refine aQ (i:=30) (N:=some 37) (v:=undef) (a':=?_) #[true,true,true,true,true,true,true,true,true,true,true,true,true,true,true,true,true,true,true,true,true,true,true,true,true,true,true,true,true,true,true,false,false,false,false,false,false] rfl rfl (br dL.out au) (fun _ _ _ h=>h) (Or.inr ⟨by rfl,rfl⟩) ?_ ?_
    rotate_left
    ·simp only [Act.put,List.setIfInBounds_toArray,List.set_cons_zero,List.set_cons_succ,aY,aZ]
     rfl
    refine aQ (i:=31) (N:=some 38) (v:=undef) (a':=?_) #[true,true,true,true,true,true,true,true,true,true,true,true,true,true,true,true,true,true,true,true,true,true,true,true,true,true,true,true,true,true,true,true,false,false,false,false,false] rfl rfl (br dL.out au) (fun _ _ _ h=>h) (Or.inr ⟨by rfl,rfl⟩) ?_ ?_
    rotate_left
    ·simp only [Act.put,List.setIfInBounds_toArray,List.set_cons_zero,List.set_cons_succ,aY,aZ]
     rfl
    refine aQ (i:=32) (N:=some 39) (v:=undef) (a':=?_) #[true,true,true,true,true,true,true,true,true,true,true,true,true,true,true,true,true,true,true,true,true,true,true,true,true,true,true,true,true,true,true,true,true,false,false,false,false] rfl rfl (br dL.out au) (fun _ _ _ h=>h) (Or.inr ⟨by rfl,rfl⟩) ?_ ?_
    rotate_left
    ·simp only [Act.put,List.setIfInBounds_toArray,List.set_cons_zero,List.set_cons_succ,aY,aZ]
     rfl
    refine aQ (i:=33) (N:=some 40) (v:=undef) (a':=?_) #[true,true,true,true,true,true,true,true,true,true,true,true,true,true,true,true,true,true,true,true,true,true,true,true,true,true,true,true,true,true,true,true,true,true,false,false,false] rfl rfl (br dL.out au) (fun _ _ _ h=>h) (Or.inr ⟨by rfl,rfl⟩) ?_ ?_
    rotate_left
    ·simp only [Act.put,List.setIfInBounds_toArray,List.set_cons_zero,List.set_cons_succ,aY,aZ]
     rfl
    refine aQ (i:=34) (N:=some 41) (v:=undef) (a':=?_) #[true,true,true,true,true,true,true,true,true,true,true,true,true,true,true,true,true,true,true,true,true,true,true,true,true,true,true,true,true,true,true,true,true,true,true,false,false] rfl rfl (br dL.out au) (fun _ _ _ h=>h) (Or.inr ⟨by rfl,rfl⟩) ?_ ?_
    rotate_left
    ·simp only [Act.put,List.setIfInBounds_toArray,List.set_cons_zero,List.set_cons_succ,aY,aZ]
     rfl
    refine aQ (i:=35) (N:=some 42) #[true,true,true,true,true,true,true,true,true,true,true,true,true,true,true,true,true,true,true,true,true,true,true,true,true,true,true,true,true,true,true,true,true,true,true,true,false] rfl rfl (br dL.out au) (fun _ _ _ h=>h) (Or.inl ⟨by rfl,cJ⟩) cX ?_
    refine aQ (i:=36) (N:=some 6) #[true,true,true,true,true,true,true,true,true,true,true,true,true,true,true,true,true,true,true,true,true,true,true,true,true,true,true,true,true,true,true,true,true,true,true,true,true] rfl rfl (br dL.out au) (fun _ _ _ h=>h) (Or.inl ⟨by rfl,cJ⟩) cX ?_
    refine oU (o7 dL.out au) ?_
    try go_wp2
    go_ret
    exact ⟨by rfl,aI⟩
  ·rw [if_neg c10] at H
   have GM:decide (a2≤bu)=false:=decide_eq_false c10
   clear c10
   obtain rfl:=Option.some.inj H
   go_enter Tryz.func106,Tryz.ntmps106
   try go_wp2_with (first|((with_reducible refine bw (N:=3) rfl ?_);(try (refine bO (by rfl) ?_;dsimp only));refine bA ?hg (N:=3) ?hd (cs:=#[.int .i64 bu,.bool bX,.slice eK cQ.length eN,.string bL,.string bQ,.bool b9,.slice dA bT.length dw,.slice eO cY.length eP,.int .i64 cg]) (t:=34) ?hr ?_;(case hd=>rfl);(case hg=>rfl);(case hr=>(go_simp;done));intro fT hg Nq bH hb;have cG:=ah.mk (bH);have TJ:=ah.mk ((bG:w.heap.size≤fT));have TK:=ah.mk ((bG:w.heap.size≤fT));replace HB:=ah.mk (av aI hb);clear hb bH hg)|((with_reducible refine bw (N:=4) rfl ?_);(try (refine bO (by rfl) ?_;dsimp only));refine bA ?hg (N:=4) ?hd (cs:=#[.int .i64 jh,.bool jL,.slice pP lW.length pQ,.string jB,.string ji,.bool jk,.slice nv je.length ny,.slice pR mJ.length pS,.int .i64 ke]) (t:=34) ?hr ?_;(case hd=>rfl);(case hg=>rfl);(case hr=>(go_simp;done));intro jG hg U3 bH hb;have gF:=ah.mk (bH);have TL:=ah.mk ((bG:w.heap.size≤jG));have TM:=ah.mk ((bG:w.heap.size≤jG));replace HB:=ah.mk (av aI hb);have yq:=ah.mk ((zA:fT≠jG));have yt:=ah.mk ((zB:jG≠fT));replace cG:=ah.mk (az tV hb);clear hb bH hg))
   have jJ:=ah.mk (iR cG.out)
   have jK:=ah.mk (iR gF.out)
   have lV:=ah.mk (gG HB.out)
   clear cG
   clear gF
   clear HB
   have cG:=jJ
   have gF:=jK
   have HB:=lV
   clear jJ jK lV
   refine lU (n:=37) (S:=fun w'=>w'.cell? ⟨fT,0,none⟩=some (.int .i64 bu)∧w'.cell? ⟨fT,1,none⟩=some (.bool bX)∧w'.cell? ⟨fT,2,none⟩=some (.slice eK cQ.length eN)∧w'.cell? ⟨fT,3,none⟩=some (.string bL)∧w'.cell? ⟨fT,4,none⟩=some (.string bQ)∧w'.cell? ⟨fT,5,none⟩=some (.bool b9)∧w'.cell? ⟨fT,6,none⟩=some (.slice dA bT.length dw)∧w'.cell? ⟨fT,7,none⟩=some (.slice eO cY.length eP)∧w'.cell? ⟨fT,8,none⟩=some (.int .i64 cg)) (ds:=[]) #[false,false,false,false,false,false,false,false,false,false,false,false,false,false,false,false,false,false,false,false,false,false,false,false,false,false,false,false,false,false,false,false,false,false,false,false,false] au (by rfl) (by rfl) ⟨(af cG.out 0).trans rfl,(af cG.out 1).trans rfl,(af cG.out 2).trans rfl,(af cG.out 3).trans rfl,(af cG.out 4).trans rfl,(af cG.out 5).trans rfl,(af cG.out 6).trans rfl,(af cG.out 7).trans rfl,(af cG.out 8).trans rfl⟩ (fun hHeld=>?_);refine lG dV.OQ dV.Fp (fun dL sJ=>?_)
   generalize U3.drew=BK at cG gF HB hHeld ⊢
   refine gv (i:=0) (N:=some 7) #[true,false,false,false,false,false,false,false,false,false,false,false,false,false,false,false,false,false,false,false,false,false,false,false,false,false,false,false,false,false,false,false,false,false,false,false,false] rfl rfl (fK dL.out sJ.out au) (fun _ _ _ h=>h) (Or.inl ⟨by rfl,qA⟩) hHeld cX ?_
   refine pq (i:=1) (N:=some 8) #[true,true,false,false,false,false,false,false,false,false,false,false,false,false,false,false,false,false,false,false,false,false,false,false,false,false,false,false,false,false,false,false,false,false,false,false,false] rfl rfl (kF dL.out au) bC (fun K hK=>?_)
   refine mH Tryz.func63 au rfl #[.agg #[.int .i64 bu,.bool bX,.slice eK cQ.length eN,.string bL,.string bQ,.bool b9,.slice dA bT.length dw,.slice eO cY.length eP,.int .i64 cg]] (by rfl) rfl rfl dM ?_
   with_reducible refine (dK.calls bu bX _ _ cQ bL bQ b9 _ _ bT _ _ cY cg false _ ?bk ?bI ?cO ?ey ?gz ?gA A4.out).mono ?_
   (case bk=>repeat (exact (Kd.bU og.out HB.out)))
   (case bI=>exact om.out)
   (case cO=>repeat (exact (Kd.bU mQ.out HB.out)))
   (case ey=>exact nW.out)
   (case gz=>repeat (exact (Kd.bU xp.out HB.out)))
   (case gA=>exact xq.out)
   rintro e w29 ⟨rfl,hb⟩
   refine ⟨_,rfl,?_⟩
   have jJ:=ah.mk (az tV hb)
   have jK:=ah.mk (az (g:=jG) (o:= .cells #[.int .i64 jh,.bool jL,.slice pP lW.length pQ,.string jB,.string ji,.bool jk,.slice nv je.length ny,.slice pR mJ.length pS,.int .i64 ke] 34 (0,0)) (by exact gF.out) hb)
   have lV:=ah.mk (av aI hb)
   clear cG
   clear gF
   clear HB
   have cG:=jJ
   have gF:=jK
   have HB:=lV
   clear jJ jK lV
   refine hK.out _ _ ⟨(af cG.out 0).trans rfl,(af cG.out 1).trans rfl,(af cG.out 2).trans rfl,(af cG.out 3).trans rfl,(af cG.out 4).trans rfl,(af cG.out 5).trans rfl,(af cG.out 6).trans rfl,(af cG.out 7).trans rfl,(af cG.out 8).trans rfl⟩ (fun hHeld=>?_)
   clear hK K
   refine kX (a':=?_) ?_ ?_
   rotate_left
   ·show Act.put _ (some 8) _=_
    simp only [Act.put,List.setIfInBounds_toArray,List.set_cons_zero,List.set_cons_succ,aY,aZ]
    rfl
   refine aQ (i:=2) (N:=some 9) #[true,true,true,false,false,false,false,false,false,false,false,false,false,false,false,false,false,false,false,false,false,false,false,false,false,false,false,false,false,false,false,false,false,false,false,false,false] rfl rfl (br dL.out au) (fun _ _ _ h=>h) (Or.inl ⟨by rfl,cJ⟩) cX ?_
   refine aQ (i:=3) (N:=some 10) #[true,true,true,true,false,false,false,false,false,false,false,false,false,false,false,false,false,false,false,false,false,false,false,false,false,false,false,false,false,false,false,false,false,false,false,false,false] rfl rfl (br dL.out au) (fun _ _ _ h=>h) (Or.inl ⟨by rfl,cJ⟩) cX ?_
   refine aQ (i:=4) (N:=some 11) #[true,true,true,true,true,false,false,false,false,false,false,false,false,false,false,false,false,false,false,false,false,false,false,false,false,false,false,false,false,false,false,false,false,false,false,false,false] rfl rfl (br dL.out au) (fun _ _ _ h=>h) (Or.inl ⟨by rfl,cJ⟩) cX ?_
   refine aQ (i:=6) (N:=some 13) #[true,true,true,true,true,false,true,false,false,false,false,false,false,false,false,false,false,false,false,false,false,false,false,false,false,false,false,false,false,false,false,false,false,false,false,false,false] rfl rfl (br dL.out au) (fun _ _ _ h=>h) (Or.inl ⟨by rfl,cJ⟩) cX ?_
   refine gv (i:=5) (N:=some 12) #[true,true,true,true,true,true,true,false,false,false,false,false,false,false,false,false,false,false,false,false,false,false,false,false,false,false,false,false,false,false,false,false,false,false,false,false,false] rfl rfl (fK dL.out sJ.out au) (fun _ _ _ h=>h) (Or.inl ⟨by rfl,qA⟩) hHeld cX ?_
   refine aQ (i:=7) (N:=some 14) #[true,true,true,true,true,true,true,true,false,false,false,false,false,false,false,false,false,false,false,false,false,false,false,false,false,false,false,false,false,false,false,false,false,false,false,false,false] rfl rfl (br dL.out au) (fun _ _ _ h=>h) (Or.inl ⟨by rfl,cJ⟩) cX ?_
   refine aQ (i:=8) (N:=some 15) #[true,true,true,true,true,true,true,true,true,false,false,false,false,false,false,false,false,false,false,false,false,false,false,false,false,false,false,false,false,false,false,false,false,false,false,false,false] rfl rfl (br dL.out au) (fun _ _ _ h=>h) (Or.inl ⟨by rfl,cJ⟩) cX ?_
   refine aQ (i:=9) (N:=some 16) #[true,true,true,true,true,true,true,true,true,true,false,false,false,false,false,false,false,false,false,false,false,false,false,false,false,false,false,false,false,false,false,false,false,false,false,false,false] rfl rfl (br dL.out au) (fun _ _ _ h=>h) (Or.inl ⟨by rfl,cJ⟩) cX ?_
   refine aQ (i:=10) (N:=some 17) (v:=undef) (a':=?_) #[true,true,true,true,true,true,true,true,true,true,true,false,false,false,false,false,false,false,false,false,false,false,false,false,false,false,false,false,false,false,false,false,false,false,false,false,false] rfl rfl (br dL.out au) (fun _ _ _ h=>h) (Or.inr ⟨by rfl,rfl⟩) ?_ ?_
   rotate_left
   ·simp only [Act.put,List.setIfInBounds_toArray,List.set_cons_zero,List.set_cons_succ,aY,aZ]
    rfl
   refine aQ (i:=11) (N:=some 18) (v:=undef) (a':=?_) #[true,true,true,true,true,true,true,true,true,true,true,true,false,false,false,false,false,false,false,false,false,false,false,false,false,false,false,false,false,false,false,false,false,false,false,false,false] rfl rfl (br dL.out au) (fun _ _ _ h=>h) (Or.inr ⟨by rfl,rfl⟩) ?_ ?_
   rotate_left
   ·simp only [Act.put,List.setIfInBounds_toArray,List.set_cons_zero,List.set_cons_succ,aY,aZ]
    rfl
   refine aQ (i:=12) (N:=some 19) (v:=undef) (a':=?_) #[true,true,true,true,true,true,true,true,true,true,true,true,true,false,false,false,false,false,false,false,false,false,false,false,false,false,false,false,false,false,false,false,false,false,false,false,false] rfl rfl (br dL.out au) (fun _ _ _ h=>h) (Or.inr ⟨by rfl,rfl⟩) ?_ ?_
   rotate_left
   ·simp only [Act.put,List.setIfInBounds_toArray,List.set_cons_zero,List.set_cons_succ,aY,aZ]
    rfl
   refine aQ (i:=13) (N:=some 20) #[true,true,true,true,true,true,true,true,true,true,true,true,true,true,false,false,false,false,false,false,false,false,false,false,false,false,false,false,false,false,false,false,false,false,false,false,false] rfl rfl (br dL.out au) (fun _ _ _ h=>h) (Or.inl ⟨by rfl,cJ⟩) cX ?_
   refine aQ (i:=14) (N:=some 21) #[true,true,true,true,true,true,true,true,true,true,true,true,true,true,true,false,false,false,false,false,false,false,false,false,false,false,false,false,false,false,false,false,false,false,false,false,false] rfl rfl (br dL.out au) (fun _ _ _ h=>h) (Or.inl ⟨by rfl,cJ⟩) cX ?_
   refine aQ (i:=15) (N:=some 22) (v:=undef) (a':=?_) #[true,true,true,true,true,true,true,true,true,true,true,true,true,true,true,true,false,false,false,false,false,false,false,false,false,false,false,false,false,false,false,false,false,false,false,false,false] rfl rfl (br dL.out au) (fun _ _ _ h=>h) (Or.inr ⟨by rfl,rfl⟩) ?_ ?_
   rotate_left
   ·simp only [Act.put,List.setIfInBounds_toArray,List.set_cons_zero,List.set_cons_succ,aY,aZ]
    rfl
   refine aQ (i:=16) (N:=some 23) (v:=undef) (a':=?_) #[true,true,true,true,true,true,true,true,true,true,true,true,true,true,true,true,true,false,false,false,false,false,false,false,false,false,false,false,false,false,false,false,false,false,false,false,false] rfl rfl (br dL.out au) (fun _ _ _ h=>h) (Or.inr ⟨by rfl,rfl⟩) ?_ ?_
   rotate_left
   ·simp only [Act.put,List.setIfInBounds_toArray,List.set_cons_zero,List.set_cons_succ,aY,aZ]
    rfl
   refine aQ (i:=17) (N:=some 24) (v:=undef) (a':=?_) #[true,true,true,true,true,true,true,true,true,true,true,true,true,true,true,true,true,true,false,false,false,false,false,false,false,false,false,false,false,false,false,false,false,false,false,false,false] rfl rfl (br dL.out au) (fun _ _ _ h=>h) (Or.inr ⟨by rfl,rfl⟩) ?_ ?_
   rotate_left
   ·simp only [Act.put,List.setIfInBounds_toArray,List.set_cons_zero,List.set_cons_succ,aY,aZ]
    rfl
   refine aQ (i:=18) (N:=some 25) (v:=undef) (a':=?_) #[true,true,true,true,true,true,true,true,true,true,true,true,true,true,true,true,true,true,true,false,false,false,false,false,false,false,false,false,false,false,false,false,false,false,false,false,false] rfl rfl (br dL.out au) (fun _ _ _ h=>h) (Or.inr ⟨by rfl,rfl⟩) ?_ ?_
   rotate_left
   ·simp only [Act.put,List.setIfInBounds_toArray,List.set_cons_zero,List.set_cons_succ,aY,aZ]
    rfl
   refine aQ (i:=19) (N:=some 26) #[true,true,true,true,true,true,true,true,true,true,true,true,true,true,true,true,true,true,true,true,false,false,false,false,false,false,false,false,false,false,false,false,false,false,false,false,false] rfl rfl (br dL.out au) (fun _ _ _ h=>h) (Or.inl ⟨by rfl,cJ⟩) cX ?_
   refine aQ (i:=20) (N:=some 27) #[true,true,true,true,true,true,true,true,true,true,true,true,true,true,true,true,true,true,true,true,true,false,false,false,false,false,false,false,false,false,false,false,false,false,false,false,false] rfl rfl (br dL.out au) (fun _ _ _ h=>h) (Or.inl ⟨by rfl,cJ⟩) cX ?_
   refine aQ (i:=21) (N:=some 28) (v:=undef) (a':=?_) #[true,true,true,true,true,true,true,true,true,true,true,true,true,true,true,true,true,true,true,true,true,true,false,false,false,false,false,false,false,false,false,false,false,false,false,false,false] rfl rfl (br dL.out au) (fun _ _ _ h=>h) (Or.inr ⟨by rfl,rfl⟩) ?_ ?_
   rotate_left
   ·simp only [Act.put,List.setIfInBounds_toArray,List.set_cons_zero,List.set_cons_succ,aY,aZ]
    rfl
   refine aQ (i:=22) (N:=some 29) (v:=undef) (a':=?_) #[true,true,true,true,true,true,true,true,true,true,true,true,true,true,true,true,true,true,true,true,true,true,true,false,false,false,false,false,false,false,false,false,false,false,false,false,false] rfl rfl (br dL.out au) (fun _ _ _ h=>h) (Or.inr ⟨by rfl,rfl⟩) ?_ ?_
   rotate_left
   ·simp only [Act.put,List.setIfInBounds_toArray,List.set_cons_zero,List.set_cons_succ,aY,aZ]
    rfl
   refine aQ (i:=23) (N:=some 30) (v:=undef) (a':=?_) #[true,true,true,true,true,true,true,true,true,true,true,true,true,true,true,true,true,true,true,true,true,true,true,true,false,false,false,false,false,false,false,false,false,false,false,false,false] rfl rfl (br dL.out au) (fun _ _ _ h=>h) (Or.inr ⟨by rfl,rfl⟩) ?_ ?_
   rotate_left
   ·simp only [Act.put,List.setIfInBounds_toArray,List.set_cons_zero,List.set_cons_succ,aY,aZ]
    rfl
   refine aQ (i:=24) (N:=some 31) (v:=undef) (a':=?_) #[true,true,true,true,true,true,true,true,true,true,true,true,true,true,true,true,true,true,true,true,true,true,true,true,true,false,false,false,false,false,false,false,false,false,false,false,false] rfl rfl (br dL.out au) (fun _ _ _ h=>h) (Or.inr ⟨by rfl,rfl⟩) ?_ ?_
   rotate_left
   ·simp only [Act.put,List.setIfInBounds_toArray,List.set_cons_zero,List.set_cons_succ,aY,aZ]
    rfl
   refine aQ (i:=25) (N:=some 32) (v:=undef) (a':=?_) #[true,true,true,true,true,true,true,true,true,true,true,true,true,true,true,true,true,true,true,true,true,true,true,true,true,true,false,false,false,false,false,false,false,false,false,false,false] rfl rfl (br dL.out au) (fun _ _ _ h=>h) (Or.inr ⟨by rfl,rfl⟩) ?_ ?_
   rotate_left
   ·simp only [Act.put,List.setIfInBounds_toArray,List.set_cons_zero,List.set_cons_succ,aY,aZ]
    rfl
   refine aQ (i:=26) (N:=some 33) (v:=undef) (a':=?_) #[true,true,true,true,true,true,true,true,true,true,true,true,true,true,true,true,true,true,true,true,true,true,true,true,true,true,true,false,false,false,false,false,false,false,false,false,false] rfl rfl (br dL.out au) (fun _ _ _ h=>h) (Or.inr ⟨by rfl,rfl⟩) ?_ ?_
   rotate_left
   ·simp only [Act.put,List.setIfInBounds_toArray,List.set_cons_zero,List.set_cons_succ,aY,aZ]
    rfl
   refine aQ (i:=27) (N:=some 34) (v:=undef) (a':=?_) #[true,true,true,true,true,true,true,true,true,true,true,true,true,true,true,true,true,true,true,true,true,true,true,true,true,true,true,true,false,false,false,false,false,false,false,false,false] rfl rfl (br dL.out au) (fun _ _ _ h=>h) (Or.inr ⟨by rfl,rfl⟩) ?_ ?_
   rotate_left
   ·simp only [Act.put,List.setIfInBounds_toArray,List.set_cons_zero,List.set_cons_succ,aY,aZ]
    rfl
   refine aQ (i:=28) (N:=some 35) (v:=undef) (a':=?_) #[true,true,true,true,true,true,true,true,true,true,true,true,true,true,true,true,true,true,true,true,true,true,true,true,true,true,true,true,true,false,false,false,false,false,false,false,false] rfl rfl (br dL.out au) (fun _ _ _ h=>h) (Or.inr ⟨by rfl,rfl⟩) ?_ ?_
   rotate_left
   ·simp only [Act.put,List.setIfInBounds_toArray,List.set_cons_zero,List.set_cons_succ,aY,aZ]
    rfl
   refine aQ (i:=29) (N:=some 36) (v:=undef) (a':=?_) #[true,true,true,true,true,true,true,true,true,true,true,true,true,true,true,true,true,true,true,true,true,true,true,true,true,true,true,true,true,true,false,false,false,false,false,false,false] rfl rfl (br dL.out au) (fun _ _ _ h=>h) (Or.inr ⟨by rfl,rfl⟩) ?_ ?_
   rotate_left
   ·simp only [Act.put,List.setIfInBounds_toArray,List.set_cons_zero,List.set_cons_succ,aY,aZ]
    rfl
   refine aQ (i:=30) (N:=some 37) (v:=undef) (a':=?_) #[true,true,true,true,true,true,true,true,true,true,true,true,true,true,true,true,true,true,true,true,true,true,true,true,true,true,true,true,true,true,true,false,false,false,false,false,false] rfl rfl (br dL.out au) (fun _ _ _ h=>h) (Or.inr ⟨by rfl,rfl⟩) ?_ ?_
   rotate_left
   ·simp only [Act.put,List.setIfInBounds_toArray,List.set_cons_zero,List.set_cons_succ,aY,aZ]
    rfl
   refine aQ (i:=31) (N:=some 38) (v:=undef) (a':=?_) #[true,true,true,true,true,true,true,true,true,true,true,true,true,true,true,true,true,true,true,true,true,true,true,true,true,true,true,true,true,true,true,true,false,false,false,false,false] rfl rfl (br dL.out au) (fun _ _ _ h=>h) (Or.inr ⟨by rfl,rfl⟩) ?_ ?_
   rotate_left
   ·simp only [Act.put,List.setIfInBounds_toArray,List.set_cons_zero,List.set_cons_succ,aY,aZ]
    rfl
   refine aQ (i:=32) (N:=some 39) (v:=undef) (a':=?_) #[true,true,true,true,true,true,true,true,true,true,true,true,true,true,true,true,true,true,true,true,true,true,true,true,true,true,true,true,true,true,true,true,true,false,false,false,false] rfl rfl (br dL.out au) (fun _ _ _ h=>h) (Or.inr ⟨by rfl,rfl⟩) ?_ ?_
   rotate_left
   ·simp only [Act.put,List.setIfInBounds_toArray,List.set_cons_zero,List.set_cons_succ,aY,aZ]
    rfl
   refine aQ (i:=33) (N:=some 40) (v:=undef) (a':=?_) #[true,true,true,true,true,true,true,true,true,true,true,true,true,true,true,true,true,true,true,true,true,true,true,true,true,true,true,true,true,true,true,true,true,true,false,false,false] rfl rfl (br dL.out au) (fun _ _ _ h=>h) (Or.inr ⟨by rfl,rfl⟩) ?_ ?_
   rotate_left
   ·simp only [Act.put,List.setIfInBounds_toArray,List.set_cons_zero,List.set_cons_succ,aY,aZ]
    rfl
   refine aQ (i:=34) (N:=some 41) (v:=undef) (a':=?_) #[true,true,true,true,true,true,true,true,true,true,true,true,true,true,true,true,true,true,true,true,true,true,true,true,true,true,true,true,true,true,true,true,true,true,true,false,false] rfl rfl (br dL.out au) (fun _ _ _ h=>h) (Or.inr ⟨by rfl,rfl⟩) ?_ ?_
   rotate_left
   ·simp only [Act.put,List.setIfInBounds_toArray,List.set_cons_zero,List.set_cons_succ,aY,aZ]
    rfl
   refine aQ (i:=35) (N:=some 42) #[true,true,true,true,true,true,true,true,true,true,true,true,true,true,true,true,true,true,true,true,true,true,true,true,true,true,true,true,true,true,true,true,true,true,true,true,false] rfl rfl (br dL.out au) (fun _ _ _ h=>h) (Or.inl ⟨by rfl,cJ⟩) cX ?_
   refine aQ (i:=36) (N:=some 6) #[true,true,true,true,true,true,true,true,true,true,true,true,true,true,true,true,true,true,true,true,true,true,true,true,true,true,true,true,true,true,true,true,true,true,true,true,true] rfl rfl (br dL.out au) (fun _ _ _ h=>h) (Or.inl ⟨by rfl,cJ⟩) cX ?_
   refine oU (o7 dL.out au) ?_
   try go_wp2
   go_ret
   exact ⟨by rfl,aI⟩
end Go.Proofs.YtbjjaaodfbjkfaaGreatDoor.ow
