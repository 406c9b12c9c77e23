import Derived.Test.YtbjjaaodfbjkfaaGreatDoorQQux2
import Derived.Test.YtbjjaaodfbjkfaaGreatDoorQQux5
namespace Go.Proofs.YtbjjaaodfbjkfaaGreatDoor.mN
open Go.RowKit Go.Proofs.YtbjjaaodfbjkfaaGreatDoor.xV Go.Proofs.ak.bQ Go.Proofs.ak.dA Go.Proofs.ak.cX
attribute [local go_sem] jc jd j4 j5 gU gV je jf
set_option linter.unusedVariables false
set_option linter.unusedSimpArgs false
attribute [local go_sem high] aaC
def dB.f (bf:Int) (bP:Bool) (cH:List ByteArray) (bE:ByteArray) (bK:ByteArray) (bU:Bool) (bN:List (jz)) (cM:List Int) (bX:Int) (iL:Int) (jh:Bool) (kM:List ByteArray) (iU:ByteArray) (iM:ByteArray) (iN:Bool) (iI:List (jz)) (lD:List Int) (jA:Int) (a2:Int):Option (Bool):=(cY.f bf bP cH bE bK bU bN cM bX).bind fun t250=>(if t250=true then (some false) else (if bf≥a2 then (if bP=true then (if (bN.length:Int)=1 then (if 0 < (bN.length:Int) then (some (((((bR bN 0).f0.f0).toList) == iU.toList && ((((bR bN 0).f0.f1).toList) == iM.toList && (((bR bN 0).f0.f2) == iN))) && (((bR bN 0).f1) == 0 && (((bR bN 0).f2) == 0)))) else (none)) else (some false)) else (some false)) else (some false)))
def dB.T1:Bool×List (List Nat×List Nat):=(true,[([],[]),([0],[0]),([1],[1]),([2,1],[2]),([3],[3]),([4,3],[3,4]),([3],[3]),([5,6,3],[3,5,6]),([3,7],[3,7]),([8,3],[8]),([9],[9]),([10,9],[9,10]),([11,9],[9,11]),([9,12],[9,12]),([13,9],[13]),([14],[14]),([15,14],[14,15]),([16,14],[14,16]),([17,14],[14,17]),([14,18],[14,18]),([19,14],[19]),([20],[20]),([21,20],[20,21]),([22,20],[20,22]),([23,20],[20,23]),([20],[20]),([25,20],[20,25]),([26,20],[20,26]),([20],[20]),([28,20],[20,28]),([29,20],[20,29]),([30,20],[20,30]),([31,20],[20,31]),([27,32,20],[20,27,32]),([24,33,20],[20,24,33]),([20,34],[20,34]),([35,20,0,1,2,3,4,5,6,7,8,9,10,11,12,13,14,15,16,17,18,19,20,21,22,23,24,25,26,27,28,29,30,31,32,33,34,35],[35])])
def dB.B1:List Nat:=[0,1,3,7,15,31,15,127,255,511,1023,2047,4095,8191,16383,32767,65535,131071,262143,524287,1048575,2097151,4194303,8388607,16777215,2097151,35651583,102760447,2097151,270532607,807403519,1881145343,4028628991,8558477311,17179869183,34359738367,68719476735]
theorem dB.LS:pW .any (opsOf Tryz.f106 1)=dB.T1:=by kernel_rfl
theorem dB.DU:pP dB.T1.2 dB.B1=true:=by kernel_rfl
set_option maxHeartbeats 8000000 in
set_option maxRecDepth 100000 in
theorem dB.calls (bf:Int) (bP:Bool) (dR:Option Addr) (dS:Nat) (cH:List ByteArray) (bE:ByteArray) (bK:ByteArray) (bU:Bool) (cU:Option Addr) (cT:Nat) (bN:List (jz)) (dU:Option Addr) (dV:Nat) (cM:List Int) (bX:Int) (iL:Int) (jh:Bool) (n7:Option Addr) (n9:Nat) (kM:List ByteArray) (iU:ByteArray) (iM:ByteArray) (iN:Bool) (lO:Option Addr) (lQ:Nat) (iI:List (jz)) (oa:Option Addr) (oc:Nat) (lD:List Int) (jA:Int) (a2:Int) (r:Bool) (w:World) (qp:Kd.C Kd.string w dR cH.length cH) (qq:cH.length≤dS) (mH:Kd.C tq w cU bN.length bN) (mQ:bN.length≤cT) (qu:Kd.C (Kd.int .u8) w dU cM.length cM) (qw:cM.length≤dV) (Kn:Kd.C Kd.string w n7 kM.length kM) (Ko:kM.length≤n9) (zB:Kd.C tq w lO iI.length iI) (zC:iI.length≤lQ) (Kp:Kd.C (Kd.int .u8) w oa lD.length lD) (Kq:lD.length≤oc) (h:dB.f bf bP cH bE bK bU bN cM bX iL jh kM iU iM iN iI lD jA a2=some r):
 Calls Tryz.prog 106 #[.agg #[.int .i64 bf,.bool bP,.slice dR cH.length dS,.string bE,.string bK,.bool bU,.slice cU bN.length cT,.slice dU cM.length dV,.int .i64 bX],.agg #[.int .i64 iL,.bool jh,.slice n7 kM.length n9,.string iU,.string iM,.bool iN,.slice lO iI.length lQ,.slice oa lD.length oc,.int .i64 jA],.int .i64 a2] w fun e w'=>e= .returned (.bool r)∧Below w.heap.size w w':=by
 have BD:=Tryz.underlying34
 have LM:=Tryz.underlying37
 have JW:=Tryz.underlying29
 have mI:=ah.mk qp
 have mJ:=ah.mk qq
 clear qp qq
 have lH:=ah.mk mH
 have mA:=ah.mk mQ
 clear mH mQ
 have vW:=ah.mk qu
 have vX:=ah.mk qw
 clear qu qw
 have OQ:=ah.mk Kn
 have OS:=ah.mk Ko
 clear Kn Ko
 have TE:=ah.mk zB
 have TF:=ah.mk zC
 clear zB zC
 have aaD:=ah.mk Kp
 have aaE:=ah.mk Kq
 clear Kp Kq
 have HB:=ah.mk (Below.refl w.heap.size w)
 have H:((cY.f bf bP cH bE bK bU bN cM bX).bind fun t250=>(if t250=true then (some false) else (if bf≥a2 then (if bP=true then (if (bN.length:Int)=1 then (if 0 < (bN.length:Int) then (some (((((bR bN 0).f0.f0).toList) == iU.toList && ((((bR bN 0).f0.f1).toList) == iM.toList && (((bR bN 0).f0.f2) == iN))) && (((bR bN 0).f1) == 0 && (((bR bN 0).f2) == 0)))) else (none)) else (some false)) else (some false)) else (some false))))=some r:=h
 clear h
 obtain ⟨t250,A4,H⟩:=bd_ H
 by_cases c5:t250=true
 ·subst c5
  rw [if_pos rfl] at H
  obtain rfl:=Option.some.inj H
  go_enter Tryz.func106,Tryz.ntmps106
  try go_wp2_with (first|((with_reducible refine bq (N:=3) rfl ?_);(try (refine bV (by rfl) ?_;dsimp only));refine br ?hg (N:=3) ?hd (cs:=#[.int .i64 bf,.bool bP,.slice dR cH.length dS,.string bE,.string bK,.bool bU,.slice cU bN.length cT,.slice dU cM.length dV,.int .i64 bX]) (t:=34) ?hr ?_;(case hd=>rfl);(case hg=>rfl);(case hr=>(go_simp;done));intro fo hg w6 bJ hb;have cz:=ah.mk (bJ);have OT:=ah.mk ((bI:w.heap.size≤fo));have OU:=ah.mk ((bI:w.heap.size≤fo));replace HB:=ah.mk (ay aJ hb);clear hb bJ hg)|((with_reducible refine bq (N:=4) rfl ?_);(try (refine bV (by rfl) ?_;dsimp only));refine br ?hg (N:=4) ?hd (cs:=#[.int .i64 iL,.bool jh,.slice n7 kM.length n9,.string iU,.string iM,.bool iN,.slice lO iI.length lQ,.slice oa lD.length oc,.int .i64 jA]) (t:=34) ?hr ?_;(case hd=>rfl);(case hg=>rfl);(case hr=>(go_simp;done));intro iZ hg w7 bJ hb;have fU:=ah.mk (bJ);have OV:=ah.mk ((bI:w.heap.size≤iZ));have OW:=ah.mk ((bI:w.heap.size≤iZ));replace HB:=ah.mk (ay aJ hb);have wY:=ah.mk ((Dc:fo≠iZ));have wZ:=ah.mk ((Dd:iZ≠fo));replace cz:=ah.mk (az sJ hb);clear hb bJ hg))
  have jT:=ah.mk (iw cz.out)
  have jU:=ah.mk (iw fU.out)
  have mO:=ah.mk (fW HB.out)
  clear cz
  clear fU
  clear HB
  have cz:=jT
  have fU:=jU
  have HB:=mO
  clear jT jU mO
  refine kK (n:=37) (S:=fun w'=>w'.cell? ⟨fo,0,none⟩=some (.int .i64 bf)∧w'.cell? ⟨fo,1,none⟩=some (.bool bP)∧w'.cell? ⟨fo,2,none⟩=some (.slice dR cH.length dS)∧w'.cell? ⟨fo,3,none⟩=some (.string bE)∧w'.cell? ⟨fo,4,none⟩=some (.string bK)∧w'.cell? ⟨fo,5,none⟩=some (.bool bU)∧w'.cell? ⟨fo,6,none⟩=some (.slice cU bN.length cT)∧w'.cell? ⟨fo,7,none⟩=some (.slice dU cM.length dV)∧w'.cell? ⟨fo,8,none⟩=some (.int .i64 bX)) (ds:=[]) #[false,false,false,false,false,false,false,false,false,false,false,false,false,false,false,false,false,false,false,false,false,false,false,false,false,false,false,false,false,false,false,false,false,false,false,false,false] aq (by rfl) (by rfl) ⟨(af cz.out 0).trans rfl,(af cz.out 1).trans rfl,(af cz.out 2).trans rfl,(af cz.out 3).trans rfl,(af cz.out 4).trans rfl,(af cz.out 5).trans rfl,(af cz.out 6).trans rfl,(af cz.out 7).trans rfl,(af cz.out 8).trans rfl⟩ (fun hHeld=>?_);refine kB dB.LS dB.DU (fun dc q8=>?_)
  generalize w7.drew=w8 at cz fU HB hHeld ⊢
  refine fN (i:=0) (N:=some 7) #[true,false,false,false,false,false,false,false,false,false,false,false,false,false,false,false,false,false,false,false,false,false,false,false,false,false,false,false,false,false,false,false,false,false,false,false,false] rfl rfl (eU dc.out q8.out aq) (fun _ _ _ h=>h) (Or.inl ⟨by rfl,pF⟩) hHeld cL ?_
  refine nL (i:=1) (N:=some 8) #[true,true,false,false,false,false,false,false,false,false,false,false,false,false,false,false,false,false,false,false,false,false,false,false,false,false,false,false,false,false,false,false,false,false,false,false,false] rfl rfl (jJ dc.out aq) bB (fun K hK=>?_)
  refine lg Tryz.func63 aq rfl #[.agg #[.int .i64 bf,.bool bP,.slice dR cH.length dS,.string bE,.string bK,.bool bU,.slice cU bN.length cT,.slice dU cM.length dV,.int .i64 bX]] (by rfl) rfl rfl dI ?_
  with_reducible refine (cY.calls bf bP _ _ cH bE bK bU _ _ bN _ _ cM bX true _ ?bk ?bM ?cQ ?fk ?gf ?gh A4.out).mono ?_
  (case bk=>repeat (exact (Kd.bD mI.out HB.out)))
  (case bM=>exact mJ.out)
  (case cQ=>repeat (exact (Kd.bD lH.out HB.out)))
  (case fk=>exact mA.out)
  (case gf=>repeat (exact (Kd.bD vW.out HB.out)))
  (case gh=>exact vX.out)
  rintro e w9 ⟨rfl,hb⟩
  refine ⟨_,rfl,?_⟩
  have jT:=ah.mk (az sJ hb)
  have jU:=ah.mk (az (g:=iZ) (o:= .cells #[.int .i64 iL,.bool jh,.slice n7 kM.length n9,.string iU,.string iM,.bool iN,.slice lO iI.length lQ,.slice oa lD.length oc,.int .i64 jA] 34 (0,0)) (by exact fU.out) hb)
  have mO:=ah.mk (ay aJ hb)
  clear cz
  clear fU
  clear HB
  have cz:=jT
  have fU:=jU
  have HB:=mO
  clear jT jU mO
  refine hK.out _ _ ⟨(af cz.out 0).trans rfl,(af cz.out 1).trans rfl,(af cz.out 2).trans rfl,(af cz.out 3).trans rfl,(af cz.out 4).trans rfl,(af cz.out 5).trans rfl,(af cz.out 6).trans rfl,(af cz.out 7).trans rfl,(af cz.out 8).trans rfl⟩ (fun hHeld=>?_)
  clear hK K
  refine jW (a':=?_) ?_ ?_
  rotate_left
  ·show Act.put _ (some 8) _=_
   simp only [Act.put,List.setIfInBounds_toArray,List.set_cons_zero,List.set_cons_succ,aU,aV]
   rfl
  refine aN (i:=2) (N:=some 9) #[true,true,true,false,false,false,false,false,false,false,false,false,false,false,false,false,false,false,false,false,false,false,false,false,false,false,false,false,false,false,false,false,false,false,false,false,false] rfl rfl (bg dc.out aq) (fun _ _ _ h=>h) (Or.inl ⟨by rfl,cD⟩) cL ?_
  refine aN (i:=3) (N:=some 10) #[true,true,true,true,false,false,false,false,false,false,false,false,false,false,false,false,false,false,false,false,false,false,false,false,false,false,false,false,false,false,false,false,false,false,false,false,false] rfl rfl (bg dc.out aq) (fun _ _ _ h=>h) (Or.inl ⟨by rfl,cD⟩) cL ?_
  refine aN (i:=4) (N:=some 11) (v:=undef) (a':=?_) #[true,true,true,true,true,false,false,false,false,false,false,false,false,false,false,false,false,false,false,false,false,false,false,false,false,false,false,false,false,false,false,false,false,false,false,false,false] rfl rfl (bg dc.out aq) (fun _ _ _ h=>h) (Or.inr ⟨by rfl,rfl⟩) ?_ ?_
  rotate_left
  ·simp only [Act.put,List.setIfInBounds_toArray,List.set_cons_zero,List.set_cons_succ,aU,aV]
   rfl
  refine aN (i:=5) (N:=some 12) (v:=undef) (a':=?_) #[true,true,true,true,true,true,false,false,false,false,false,false,false,false,false,false,false,false,false,false,false,false,false,false,false,false,false,false,false,false,false,false,false,false,false,false,false] rfl rfl (bg dc.out aq) (fun _ _ _ h=>h) (Or.inr ⟨by rfl,rfl⟩) ?_ ?_
  rotate_left
  ·simp only [Act.put,List.setIfInBounds_toArray,List.set_cons_zero,List.set_cons_succ,aU,aV]
   rfl
  refine aN (i:=6) (N:=some 13) (v:=undef) (a':=?_) #[true,true,true,true,true,true,true,false,false,false,false,false,false,false,false,false,false,false,false,false,false,false,false,false,false,false,false,false,false,false,false,false,false,false,false,false,false] rfl rfl (bg dc.out aq) (fun _ _ _ h=>h) (Or.inr ⟨by rfl,rfl⟩) ?_ ?_
  rotate_left
  ·simp only [Act.put,List.setIfInBounds_toArray,List.set_cons_zero,List.set_cons_succ,aU,aV]
   rfl
  refine aN (i:=7) (N:=some 14) (v:=undef) (a':=?_) #[true,true,true,true,true,true,true,true,false,false,false,false,false,false,false,false,false,false,false,false,false,false,false,false,false,false,false,false,false,false,false,false,false,false,false,false,false] rfl rfl (bg dc.out aq) (fun _ _ _ h=>h) (Or.inr ⟨by rfl,rfl⟩) ?_ ?_
  rotate_left
  ·simp only [Act.put,List.setIfInBounds_toArray,List.set_cons_zero,List.set_cons_succ,aU,aV]
   rfl
  refine aN (i:=8) (N:=some 15) #[true,true,true,true,true,true,true,true,true,false,false,false,false,false,false,false,false,false,false,false,false,false,false,false,false,false,false,false,false,false,false,false,false,false,false,false,false] rfl rfl (bg dc.out aq) (fun _ _ _ h=>h) (Or.inl ⟨by rfl,cD⟩) cL ?_
  refine aN (i:=9) (N:=some 16) #[true,true,true,true,true,true,true,true,true,true,false,false,false,false,false,false,false,false,false,false,false,false,false,false,false,false,false,false,false,false,false,false,false,false,false,false,false] rfl rfl (bg dc.out aq) (fun _ _ _ h=>h) (Or.inl ⟨by rfl,cD⟩) cL ?_
  refine aN (i:=10) (N:=some 17) (v:=undef) (a':=?_) #[true,true,true,true,true,true,true,true,true,true,true,false,false,false,false,false,false,false,false,false,false,false,false,false,false,false,false,false,false,false,false,false,false,false,false,false,false] rfl rfl (bg dc.out aq) (fun _ _ _ h=>h) (Or.inr ⟨by rfl,rfl⟩) ?_ ?_
  rotate_left
  ·simp only [Act.put,List.setIfInBounds_toArray,List.set_cons_zero,List.set_cons_succ,aU,aV]
   rfl
  refine aN (i:=11) (N:=some 18) (v:=undef) (a':=?_) #[true,true,true,true,true,true,true,true,true,true,true,true,false,false,false,false,false,false,false,false,false,false,false,false,false,false,false,false,false,false,false,false,false,false,false,false,false] rfl rfl (bg dc.out aq) (fun _ _ _ h=>h) (Or.inr ⟨by rfl,rfl⟩) ?_ ?_
  rotate_left
  ·simp only [Act.put,List.setIfInBounds_toArray,List.set_cons_zero,List.set_cons_succ,aU,aV]
   rfl
  refine aN (i:=12) (N:=some 19) (v:=undef) (a':=?_) #[true,true,true,true,true,true,true,true,true,true,true,true,true,false,false,false,false,false,false,false,false,false,false,false,false,false,false,false,false,false,false,false,false,false,false,false,false] rfl rfl (bg dc.out aq) (fun _ _ _ h=>h) (Or.inr ⟨by rfl,rfl⟩) ?_ ?_
  rotate_left
  ·simp only [Act.put,List.setIfInBounds_toArray,List.set_cons_zero,List.set_cons_succ,aU,aV]
   rfl
  refine aN (i:=13) (N:=some 20) #[true,true,true,true,true,true,true,true,true,true,true,true,true,true,false,false,false,false,false,false,false,false,false,false,false,false,false,false,false,false,false,false,false,false,false,false,false] rfl rfl (bg dc.out aq) (fun _ _ _ h=>h) (Or.inl ⟨by rfl,cD⟩) cL ?_
  refine aN (i:=14) (N:=some 21) #[true,true,true,true,true,true,true,true,true,true,true,true,true,true,true,false,false,false,false,false,false,false,false,false,false,false,false,false,false,false,false,false,false,false,false,false,false] rfl rfl (bg dc.out aq) (fun _ _ _ h=>h) (Or.inl ⟨by rfl,cD⟩) cL ?_
  refine aN (i:=15) (N:=some 22) (v:=undef) (a':=?_) #[true,true,true,true,true,true,true,true,true,true,true,true,true,true,true,true,false,false,false,false,false,false,false,false,false,false,false,false,false,false,false,false,false,false,false,false,false] rfl rfl (bg dc.out aq) (fun _ _ _ h=>h) (Or.inr ⟨by rfl,rfl⟩) ?_ ?_
  rotate_left
  ·simp only [Act.put,List.setIfInBounds_toArray,List.set_cons_zero,List.set_cons_succ,aU,aV]
   rfl
  refine aN (i:=16) (N:=some 23) (v:=undef) (a':=?_) #[true,true,true,true,true,true,true,true,true,true,true,true,true,true,true,true,true,false,false,false,false,false,false,false,false,false,false,false,false,false,false,false,false,false,false,false,false] rfl rfl (bg dc.out aq) (fun _ _ _ h=>h) (Or.inr ⟨by rfl,rfl⟩) ?_ ?_
  rotate_left
  ·simp only [Act.put,List.setIfInBounds_toArray,List.set_cons_zero,List.set_cons_succ,aU,aV]
   rfl
  refine aN (i:=17) (N:=some 24) (v:=undef) (a':=?_) #[true,true,true,true,true,true,true,true,true,true,true,true,true,true,true,true,true,true,false,false,false,false,false,false,false,false,false,false,false,false,false,false,false,false,false,false,false] rfl rfl (bg dc.out aq) (fun _ _ _ h=>h) (Or.inr ⟨by rfl,rfl⟩) ?_ ?_
  rotate_left
  ·simp only [Act.put,List.setIfInBounds_toArray,List.set_cons_zero,List.set_cons_succ,aU,aV]
   rfl
  refine aN (i:=18) (N:=some 25) (v:=undef) (a':=?_) #[true,true,true,true,true,true,true,true,true,true,true,true,true,true,true,true,true,true,true,false,false,false,false,false,false,false,false,false,false,false,false,false,false,false,false,false,false] rfl rfl (bg dc.out aq) (fun _ _ _ h=>h) (Or.inr ⟨by rfl,rfl⟩) ?_ ?_
  rotate_left
  ·simp only [Act.put,List.setIfInBounds_toArray,List.set_cons_zero,List.set_cons_succ,aU,aV]
   rfl
  refine aN (i:=19) (N:=some 26) #[true,true,true,true,true,true,true,true,true,true,true,true,true,true,true,true,true,true,true,true,false,false,false,false,false,false,false,false,false,false,false,false,false,false,false,false,false] rfl rfl (bg dc.out aq) (fun _ _ _ h=>h) (Or.inl ⟨by rfl,cD⟩) cL ?_
  refine aN (i:=20) (N:=some 27) #[true,true,true,true,true,true,true,true,true,true,true,true,true,true,true,true,true,true,true,true,true,false,false,false,false,false,false,false,false,false,false,false,false,false,false,false,false] rfl rfl (bg dc.out aq) (fun _ _ _ h=>h) (Or.inl ⟨by rfl,cD⟩) cL ?_
  refine aN (i:=21) (N:=some 28) (v:=undef) (a':=?_) #[true,true,true,true,true,true,true,true,true,true,true,true,true,true,true,true,true,true,true,true,true,true,false,false,false,false,false,false,false,false,false,false,false,false,false,false,false] rfl rfl (bg dc.out aq) (fun _ _ _ h=>h) (Or.inr ⟨by rfl,rfl⟩) ?_ ?_
  rotate_left
  ·simp only [Act.put,List.setIfInBounds_toArray,List.set_cons_zero,List.set_cons_succ,aU,aV]
   rfl
  refine aN (i:=22) (N:=some 29) (v:=undef) (a':=?_) #[true,true,true,true,true,true,true,true,true,true,true,true,true,true,true,true,true,true,true,true,true,true,true,false,false,false,false,false,false,false,false,false,false,false,false,false,false] rfl rfl (bg dc.out aq) (fun _ _ _ h=>h) (Or.inr ⟨by rfl,rfl⟩) ?_ ?_
  rotate_left
  ·simp only [Act.put,List.setIfInBounds_toArray,List.set_cons_zero,List.set_cons_succ,aU,aV]
   rfl
  refine aN (i:=23) (N:=some 30) (v:=undef) (a':=?_) #[true,true,true,true,true,true,true,true,true,true,true,true,true,true,true,true,true,true,true,true,true,true,true,true,false,false,false,false,false,false,false,false,false,false,false,false,false] rfl rfl (bg dc.out aq) (fun _ _ _ h=>h) (Or.inr ⟨by rfl,rfl⟩) ?_ ?_
  rotate_left
  ·simp only [Act.put,List.setIfInBounds_toArray,List.set_cons_zero,List.set_cons_succ,aU,aV]
   rfl
  refine aN (i:=24) (N:=some 31) (v:=undef) (a':=?_) #[true,true,true,true,true,true,true,true,true,true,true,true,true,true,true,true,true,true,true,true,true,true,true,true,true,false,false,false,false,false,false,false,false,false,false,false,false] rfl rfl (bg dc.out aq) (fun _ _ _ h=>h) (Or.inr ⟨by rfl,rfl⟩) ?_ ?_
  rotate_left
  ·simp only [Act.put,List.setIfInBounds_toArray,List.set_cons_zero,List.set_cons_succ,aU,aV]
   rfl
  refine aN (i:=25) (N:=some 32) (v:=undef) (a':=?_) #[true,true,true,true,true,true,true,true,true,true,true,true,true,true,true,true,true,true,true,true,true,true,true,true,true,true,false,false,false,false,false,false,false,false,false,false,false] rfl rfl (bg dc.out aq) (fun _ _ _ h=>h) (Or.inr ⟨by rfl,rfl⟩) ?_ ?_
  rotate_left
  ·simp only [Act.put,List.setIfInBounds_toArray,List.set_cons_zero,List.set_cons_succ,aU,aV]
   rfl
  refine aN (i:=26) (N:=some 33) (v:=undef) (a':=?_) #[true,true,true,true,true,true,true,true,true,true,true,true,true,true,true,true,true,true,true,true,true,true,true,true,true,true,true,false,false,false,false,false,false,false,false,false,false] rfl rfl (bg dc.out aq) (fun _ _ _ h=>h) (Or.inr ⟨by rfl,rfl⟩) ?_ ?_
  rotate_left
  ·simp only [Act.put,List.setIfInBounds_toArray,List.set_cons_zero,List.set_cons_succ,aU,aV]
   rfl
  refine aN (i:=27) (N:=some 34) (v:=undef) (a':=?_) #[true,true,true,true,true,true,true,true,true,true,true,true,true,true,true,true,true,true,true,true,true,true,true,true,true,true,true,true,false,false,false,false,false,false,false,false,false] rfl rfl (bg dc.out aq) (fun _ _ _ h=>h) (Or.inr ⟨by rfl,rfl⟩) ?_ ?_
  rotate_left
  ·simp only [Act.put,List.setIfInBounds_toArray,List.set_cons_zero,List.set_cons_succ,aU,aV]
   rfl
  refine aN (i:=28) (N:=some 35) (v:=undef) (a':=?_) #[true,true,true,true,true,true,true,true,true,true,true,true,true,true,true,true,true,true,true,true,true,true,true,true,true,true,true,true,true,false,false,false,false,false,false,false,false] rfl rfl (bg dc.out aq) (fun _ _ _ h=>h) (Or.inr ⟨by rfl,rfl⟩) ?_ ?_
  rotate_left
  ·simp only [Act.put,List.setIfInBounds_toArray,List.set_cons_zero,List.set_cons_succ,aU,aV]
   rfl
  refine aN (i:=29) (N:=some 36) (v:=undef) (a':=?_) #[true,true,true,true,true,true,true,true,true,true,true,true,true,true,true,true,true,true,true,true,true,true,true,true,true,true,true,true,true,true,false,false,false,false,false,false,false] rfl rfl (bg dc.out aq) (fun _ _ _ h=>h) (Or.inr ⟨by rfl,rfl⟩) ?_ ?_
  rotate_left
  ·simp only [Act.put,List.setIfInBounds_toArray,List.set_cons_zero,List.set_cons_succ,aU,aV]
   rfl
  refine aN (i:=30) (N:=some 37) (v:=undef) (a':=?_) #[true,true,true,true,true,true,true,true,true,true,true,true,true,true,true,true,true,true,true,true,true,true,true,true,true,true,true,true,true,true,true,false,false,false,false,false,false] rfl rfl (bg dc.out aq) (fun _ _ _ h=>h) (Or.inr ⟨by rfl,rfl⟩) ?_ ?_
  rotate_left
  ·simp only [Act.put,List.setIfInBounds_toArray,List.set_cons_zero,List.set_cons_succ,aU,aV]
   rfl
  refine aN (i:=31) (N:=some 38) (v:=undef) (a':=?_) #[true,true,true,true,true,true,true,true,true,true,true,true,true,true,true,true,true,true,true,true,true,true,true,true,true,true,true,true,true,true,true,true,false,false,false,false,false] rfl rfl (bg dc.out aq) (fun _ _ _ h=>h) (Or.inr ⟨by rfl,rfl⟩) ?_ ?_
  rotate_left
  ·simp only [Act.put,List.setIfInBounds_toArray,List.set_cons_zero,List.set_cons_succ,aU,aV]
   rfl
  refine aN (i:=32) (N:=some 39) (v:=undef) (a':=?_) #[true,true,true,true,true,true,true,true,true,true,true,true,true,true,true,true,true,true,true,true,true,true,true,true,true,true,true,true,true,true,true,true,true,false,false,false,false] rfl rfl (bg dc.out aq) (fun _ _ _ h=>h) (Or.inr ⟨by rfl,rfl⟩) ?_ ?_
  rotate_left
  ·simp only [Act.put,List.setIfInBounds_toArray,List.set_cons_zero,List.set_cons_succ,aU,aV]
   rfl
  refine aN (i:=33) (N:=some 40) (v:=undef) (a':=?_) #[true,true,true,true,true,true,true,true,true,true,true,true,true,true,true,true,true,true,true,true,true,true,true,true,true,true,true,true,true,true,true,true,true,true,false,false,false] rfl rfl (bg dc.out aq) (fun _ _ _ h=>h) (Or.inr ⟨by rfl,rfl⟩) ?_ ?_
  rotate_left
  ·simp only [Act.put,List.setIfInBounds_toArray,List.set_cons_zero,List.set_cons_succ,aU,aV]
   rfl
  refine aN (i:=34) (N:=some 41) (v:=undef) (a':=?_) #[true,true,true,true,true,true,true,true,true,true,true,true,true,true,true,true,true,true,true,true,true,true,true,true,true,true,true,true,true,true,true,true,true,true,true,false,false] rfl rfl (bg dc.out aq) (fun _ _ _ h=>h) (Or.inr ⟨by rfl,rfl⟩) ?_ ?_
  rotate_left
  ·simp only [Act.put,List.setIfInBounds_toArray,List.set_cons_zero,List.set_cons_succ,aU,aV]
   rfl
  refine aN (i:=35) (N:=some 42) #[true,true,true,true,true,true,true,true,true,true,true,true,true,true,true,true,true,true,true,true,true,true,true,true,true,true,true,true,true,true,true,true,true,true,true,true,false] rfl rfl (bg dc.out aq) (fun _ _ _ h=>h) (Or.inl ⟨by rfl,cD⟩) cL ?_
  refine aN (i:=36) (N:=some 6) #[true,true,true,true,true,true,true,true,true,true,true,true,true,true,true,true,true,true,true,true,true,true,true,true,true,true,true,true,true,true,true,true,true,true,true,true,true] rfl rfl (bg dc.out aq) (fun _ _ _ h=>h) (Or.inl ⟨by rfl,cD⟩) cL ?_
  refine nk (nD dc.out aq) ?_
  try go_wp2
  go_ret
  exact ⟨by rfl,aJ⟩
 ·replace c5:=Bool.eq_false_iff.mpr c5
  subst c5
  rw [if_neg (show ¬ (false=true) by decide)] at H
  by_cases c10:bf≥a2
  ·rw [if_pos c10] at H
   have E6:decide (a2≤bf)=true:=decide_eq_true c10
   clear c10
   by_cases c11:bP=true
   ·subst c11
    rw [if_pos rfl] at H
    by_cases c12:(bN.length:Int)=1
    ·rw [if_pos c12] at H
     have J0:=beq_iff_eq.mpr c12
     have SU:=bne_eq_false_iff_eq.mpr c12
     clear c12
     obtain ⟨c13,H⟩:=lJ H
     have DG:=decide_eq_true c13
     have Ke:decide (0 < bN.length)=true:=decide_eq_true aA
     clear c13
     obtain rfl:=Option.some.inj H
     go_enter Tryz.func106,Tryz.ntmps106
     try go_wp2_with (first|((with_reducible refine bq (N:=3) rfl ?_);(try (refine bV (by rfl) ?_;dsimp only));refine br ?hg (N:=3) ?hd (cs:=#[.int .i64 bf,.bool true,.slice dR cH.length dS,.string bE,.string bK,.bool bU,.slice cU bN.length cT,.slice dU cM.length dV,.int .i64 bX]) (t:=34) ?hr ?_;(case hd=>rfl);(case hg=>rfl);(case hr=>(go_simp;done));intro fo hg JB bJ hb;have cz:=ah.mk (bJ);have OT:=ah.mk ((bI:w.heap.size≤fo));have OU:=ah.mk ((bI:w.heap.size≤fo));replace HB:=ah.mk (ay aJ hb);clear hb bJ hg)|((with_reducible refine bq (N:=4) rfl ?_);(try (refine bV (by rfl) ?_;dsimp only));refine br ?hg (N:=4) ?hd (cs:=#[.int .i64 iL,.bool jh,.slice n7 kM.length n9,.string iU,.string iM,.bool iN,.slice lO iI.length lQ,.slice oa lD.length oc,.int .i64 jA]) (t:=34) ?hr ?_;(case hd=>rfl);(case hg=>rfl);(case hr=>(go_simp;done));intro iZ hg qJ bJ hb;have fU:=ah.mk (bJ);have OV:=ah.mk ((bI:w.heap.size≤iZ));have OW:=ah.mk ((bI:w.heap.size≤iZ));replace HB:=ah.mk (ay aJ hb);have wY:=ah.mk ((Dc:fo≠iZ));have wZ:=ah.mk ((Dd:iZ≠fo));replace cz:=ah.mk (az sJ hb);clear hb bJ hg))
     have jT:=ah.mk (iw cz.out)
     have jU:=ah.mk (iw fU.out)
     have mO:=ah.mk (fW HB.out)
     clear cz
     clear fU
     clear HB
     have cz:=jT
     have fU:=jU
     have HB:=mO
     clear jT jU mO
     have ack: 0≤(0:Int):=aA
     have acm: 0 < (bN.length:Int):=of_decide_eq_true cu
     obtain ⟨lR,axa,rQ,rR,rS,rT,rU,rV⟩:=ql lH.out 0 ack acm
     have uA:=rV
     (try rw [show ((0:Int)).toNat=0 from rfl] at uA)
     (try rw [show 0 * 6=0 from rfl] at uA)
     (try rw [Addr.add_zero'] at uA)
     have uB:=rU
     (try rw [show ((0:Int)).toNat=0 from rfl] at uB)
     (try rw [show 0 * 6=0 from rfl] at uB)
     (try rw [Addr.add_zero'] at uB)
     have uC:=rT
     (try rw [show ((0:Int)).toNat=0 from rfl] at uC)
     (try rw [show 0 * 6=0 from rfl] at uC)
     (try rw [Addr.add_zero'] at uC)
     have uD:=rS
     (try rw [show ((0:Int)).toNat=0 from rfl] at uD)
     (try rw [show 0 * 6=0 from rfl] at uD)
     (try rw [Addr.add_zero'] at uD)
     have uE:=rR
     (try rw [show ((0:Int)).toNat=0 from rfl] at uE)
     (try rw [show 0 * 6=0 from rfl] at uE)
     (try rw [Addr.add_zero'] at uE)
     have uF:=rQ
     (try rw [show ((0:Int)).toNat=0 from rfl] at uF)
     (try rw [show 0 * 6=0 from rfl] at uF)
     (try rw [Addr.add_zero'] at uF)
     cases axa
     have azL:(0 < bN.length)=True:=eq_true aA
     (try rw [show ((0:Int)).toNat=0 from rfl] at rQ)
     (try rw [show 0 * 6=0 from rfl] at rQ)
     (try rw [Addr.add_zero'] at rQ)
     (try rw [show ((0:Int)).toNat=0 from rfl] at rR)
     (try rw [show 0 * 6=0 from rfl] at rR)
     (try rw [Addr.add_zero'] at rR)
     (try rw [show ((0:Int)).toNat=0 from rfl] at rS)
     (try rw [show 0 * 6=0 from rfl] at rS)
     (try rw [Addr.add_zero'] at rS)
     (try rw [show ((0:Int)).toNat=0 from rfl] at rT)
     (try rw [show 0 * 6=0 from rfl] at rT)
     (try rw [Addr.add_zero'] at rT)
     (try rw [show ((0:Int)).toNat=0 from rfl] at rU)
     (try rw [show 0 * 6=0 from rfl] at rU)
     (try rw [Addr.add_zero'] at rU)
     (try rw [show ((0:Int)).toNat=0 from rfl] at rV)
     (try rw [show 0 * 6=0 from rfl] at rV)
     (try rw [Addr.add_zero'] at rV)
     replace rQ:=(HB.out.cell (World.block_lt_of_cell? w _ rQ)).trans rQ
     replace rR:=(HB.out.cell (World.block_lt_of_cell? w _ rR)).trans rR
     replace rS:=(HB.out.cell (World.block_lt_of_cell? w _ rS)).trans rS
     replace rT:=(HB.out.cell (World.block_lt_of_cell? w _ rT)).trans rT
     replace rU:=(HB.out.cell (World.block_lt_of_cell? w _ rU)).trans rU
     replace rV:=(HB.out.cell (World.block_lt_of_cell? w _ rV)).trans rV
     replace ack:=eq_true ack
     replace acm:=eq_true acm
     have acn: 0≤(0:Int):=aA
     have aco: 0 < (bN.length:Int):=of_decide_eq_true cu
     obtain ⟨agD,axb,rW,rX,rY,rZ,sj,su⟩:=ql lH.out 0 acn aco
     have uG:=su
     (try rw [show ((0:Int)).toNat=0 from rfl] at uG)
     (try rw [show 0 * 6=0 from rfl] at uG)
     (try rw [Addr.add_zero'] at uG)
     have uH:=sj
     (try rw [show ((0:Int)).toNat=0 from rfl] at uH)
     (try rw [show 0 * 6=0 from rfl] at uH)
     (try rw [Addr.add_zero'] at uH)
     have uI:=rZ
     (try rw [show ((0:Int)).toNat=0 from rfl] at uI)
     (try rw [show 0 * 6=0 from rfl] at uI)
     (try rw [Addr.add_zero'] at uI)
     have uJ:=rY
     (try rw [show ((0:Int)).toNat=0 from rfl] at uJ)
     (try rw [show 0 * 6=0 from rfl] at uJ)
     (try rw [Addr.add_zero'] at uJ)
     have uK:=rX
     (try rw [show ((0:Int)).toNat=0 from rfl] at uK)
     (try rw [show 0 * 6=0 from rfl] at uK)
     (try rw [Addr.add_zero'] at uK)
     have uL:=rW
     (try rw [show ((0:Int)).toNat=0 from rfl] at uL)
     (try rw [show 0 * 6=0 from rfl] at uL)
     (try rw [Addr.add_zero'] at uL)
     obtain rfl:lR=agD:=(by injection axb)
     have azM:(0 < bN.length)=True:=eq_true aA
     (try rw [show ((0:Int)).toNat=0 from rfl] at rW)
     (try rw [show 0 * 6=0 from rfl] at rW)
     (try rw [Addr.add_zero'] at rW)
     (try rw [show ((0:Int)).toNat=0 from rfl] at rX)
     (try rw [show 0 * 6=0 from rfl] at rX)
     (try rw [Addr.add_zero'] at rX)
     (try rw [show ((0:Int)).toNat=0 from rfl] at rY)
     (try rw [show 0 * 6=0 from rfl] at rY)
     (try rw [Addr.add_zero'] at rY)
     (try rw [show ((0:Int)).toNat=0 from rfl] at rZ)
     (try rw [show 0 * 6=0 from rfl] at rZ)
     (try rw [Addr.add_zero'] at rZ)
     (try rw [show ((0:Int)).toNat=0 from rfl] at sj)
     (try rw [show 0 * 6=0 from rfl] at sj)
     (try rw [Addr.add_zero'] at sj)
     (try rw [show ((0:Int)).toNat=0 from rfl] at su)
     (try rw [show 0 * 6=0 from rfl] at su)
     (try rw [Addr.add_zero'] at su)
     replace rW:=(HB.out.cell (World.block_lt_of_cell? w _ rW)).trans rW
     replace rX:=(HB.out.cell (World.block_lt_of_cell? w _ rX)).trans rX
     replace rY:=(HB.out.cell (World.block_lt_of_cell? w _ rY)).trans rY
     replace rZ:=(HB.out.cell (World.block_lt_of_cell? w _ rZ)).trans rZ
     replace sj:=(HB.out.cell (World.block_lt_of_cell? w _ sj)).trans sj
     replace su:=(HB.out.cell (World.block_lt_of_cell? w _ su)).trans su
     replace acn:=eq_true acn
     replace aco:=eq_true aco
     refine kK (n:=37) (S:=fun w'=>w'.cell? ⟨fo,0,none⟩=some (.int .i64 bf)∧w'.cell? ⟨fo,1,none⟩=some (.bool true)∧w'.cell? ⟨fo,2,none⟩=some (.slice dR cH.length dS)∧w'.cell? ⟨fo,3,none⟩=some (.string bE)∧w'.cell? ⟨fo,4,none⟩=some (.string bK)∧w'.cell? ⟨fo,5,none⟩=some (.bool bU)∧w'.cell? ⟨fo,6,none⟩=some (.slice (some lR) bN.length cT)∧w'.cell? ⟨fo,7,none⟩=some (.slice dU cM.length dV)∧w'.cell? ⟨fo,8,none⟩=some (.int .i64 bX)∧w'.cell? ⟨iZ,0,none⟩=some (.int .i64 iL)∧w'.cell? ⟨iZ,1,none⟩=some (.bool jh)∧w'.cell? ⟨iZ,2,none⟩=some (.slice n7 kM.length n9)∧w'.cell? ⟨iZ,3,none⟩=some (.string iU)∧w'.cell? ⟨iZ,4,none⟩=some (.string iM)∧w'.cell? ⟨iZ,5,none⟩=some (.bool iN)∧w'.cell? ⟨iZ,6,none⟩=some (.slice lO iI.length lQ)∧w'.cell? ⟨iZ,7,none⟩=some (.slice oa lD.length oc)∧w'.cell? ⟨iZ,8,none⟩=some (.int .i64 jA)∧w'.cell? lR=some (.string ((bR bN 0).f0.f0))∧w'.cell? ⟨lR.block,lR.off + 1,none⟩=some (.string ((bR bN 0).f0.f1))∧w'.cell? ⟨lR.block,lR.off + 2,none⟩=some (.bool ((bR bN 0).f0.f2))∧w'.cell? ⟨lR.block,lR.off + 3,none⟩=some (.int .u8 ((bR bN 0).f1))∧w'.cell? ⟨lR.block,lR.off + 4,none⟩=some (.int .i64 ((bR bN 0).f2))∧w'.cell? ⟨lR.block,lR.off + 5,none⟩=some (.int .i64 ((bR bN 0).f3))∧w'.cell? lR=some (.string ((bR bN 0).f0.f0))∧w'.cell? ⟨lR.block,lR.off + 1,none⟩=some (.string ((bR bN 0).f0.f1))∧w'.cell? ⟨lR.block,lR.off + 2,none⟩=some (.bool ((bR bN 0).f0.f2))∧w'.cell? ⟨lR.block,lR.off + 3,none⟩=some (.int .u8 ((bR bN 0).f1))∧w'.cell? ⟨lR.block,lR.off + 4,none⟩=some (.int .i64 ((bR bN 0).f2))∧w'.cell? ⟨lR.block,lR.off + 5,none⟩=some (.int .i64 ((bR bN 0).f3))) (ds:=[]) #[false,false,false,false,false,false,false,false,false,false,false,false,false,false,false,false,false,false,false,false,false,false,false,false,false,false,false,false,false,false,false,false,false,false,false,false,false] aq (by rfl) (by rfl) ⟨(af cz.out 0).trans rfl,(af cz.out 1).trans rfl,(af cz.out 2).trans rfl,(af cz.out 3).trans rfl,(af cz.out 4).trans rfl,(af cz.out 5).trans rfl,(af cz.out 6).trans rfl,(af cz.out 7).trans rfl,(af cz.out 8).trans rfl,(af fU.out 0).trans rfl,(af fU.out 1).trans rfl,(af fU.out 2).trans rfl,(af fU.out 3).trans rfl,(af fU.out 4).trans rfl,(af fU.out 5).trans rfl,(af fU.out 6).trans rfl,(af fU.out 7).trans rfl,(af fU.out 8).trans rfl,((HB.out.cell (World.block_lt_of_cell? w _ uF)).trans uF),((HB.out.cell (World.block_lt_of_cell? w _ uE)).trans uE),((HB.out.cell (World.block_lt_of_cell? w _ uD)).trans uD),((HB.out.cell (World.block_lt_of_cell? w _ uC)).trans uC),((HB.out.cell (World.block_lt_of_cell? w _ uB)).trans uB),((HB.out.cell (World.block_lt_of_cell? w _ uA)).trans uA),((HB.out.cell (World.block_lt_of_cell? w _ uL)).trans uL),((HB.out.cell (World.block_lt_of_cell? w _ uK)).trans uK),((HB.out.cell (World.block_lt_of_cell? w _ uJ)).trans uJ),((HB.out.cell (World.block_lt_of_cell? w _ uI)).trans uI),((HB.out.cell (World.block_lt_of_cell? w _ uH)).trans uH),((HB.out.cell (World.block_lt_of_cell? w _ uG)).trans uG)⟩ (fun hHeld=>?_);refine kB dB.LS dB.DU (fun dc q8=>?_)
     generalize qJ.drew=tC at cz fU HB rQ rR rS rT rU rV rW rX rY rZ sj su hHeld ⊢
     refine fN (i:=0) (N:=some 7) #[true,false,false,false,false,false,false,false,false,false,false,false,false,false,false,false,false,false,false,false,false,false,false,false,false,false,false,false,false,false,false,false,false,false,false,false,false] rfl rfl (eU dc.out q8.out aq) (fun _ _ _ h=>h) (Or.inl ⟨by rfl,tQ⟩) hHeld cL ?_
     refine nL (i:=1) (N:=some 8) #[true,true,false,false,false,false,false,false,false,false,false,false,false,false,false,false,false,false,false,false,false,false,false,false,false,false,false,false,false,false,false,false,false,false,false,false,false] rfl rfl (jJ dc.out aq) bB (fun K hK=>?_)
     refine lg Tryz.func63 aq rfl #[.agg #[.int .i64 bf,.bool true,.slice dR cH.length dS,.string bE,.string bK,.bool bU,.slice (some lR) bN.length cT,.slice dU cM.length dV,.int .i64 bX]] (by rfl) rfl rfl dI ?_
     with_reducible refine (cY.calls bf true _ _ cH bE bK bU _ _ bN _ _ cM bX false _ ?bk ?bM ?cQ ?fk ?gf ?gh A4.out).mono ?_
     (case bk=>repeat (exact (Kd.bD mI.out HB.out)))
     (case bM=>exact mJ.out)
     (case cQ=>repeat (exact (Kd.bD lH.out HB.out)))
     (case fk=>exact mA.out)
     (case gf=>repeat (exact (Kd.bD vW.out HB.out)))
     (case gh=>exact vX.out)
     rintro e sL ⟨rfl,hb⟩
     refine ⟨_,rfl,?_⟩
     have jT:=ah.mk (az sJ hb)
     have jU:=ah.mk (az (g:=iZ) (o:= .cells #[.int .i64 iL,.bool jh,.slice n7 kM.length n9,.string iU,.string iM,.bool iN,.slice lO iI.length lQ,.slice oa lD.length oc,.int .i64 jA] 34 (0,0)) (by exact fU.out) hb)
     have mO:=ah.mk (ay aJ hb)
     clear cz
     clear fU
     clear HB
     have cz:=jT
     have fU:=jU
     have HB:=mO
     clear jT jU mO
     refine hK.out _ _ ⟨(af cz.out 0).trans rfl,(af cz.out 1).trans rfl,(af cz.out 2).trans rfl,(af cz.out 3).trans rfl,(af cz.out 4).trans rfl,(af cz.out 5).trans rfl,(af cz.out 6).trans rfl,(af cz.out 7).trans rfl,(af cz.out 8).trans rfl,(af fU.out 0).trans rfl,(af fU.out 1).trans rfl,(af fU.out 2).trans rfl,(af fU.out 3).trans rfl,(af fU.out 4).trans rfl,(af fU.out 5).trans rfl,(af fU.out 6).trans rfl,(af fU.out 7).trans rfl,(af fU.out 8).trans rfl,((HB.out.cell (World.block_lt_of_cell? w _ uF)).trans uF),((HB.out.cell (World.block_lt_of_cell? w _ uE)).trans uE),((HB.out.cell (World.block_lt_of_cell? w _ uD)).trans uD),((HB.out.cell (World.block_lt_of_cell? w _ uC)).trans uC),((HB.out.cell (World.block_lt_of_cell? w _ uB)).trans uB),((HB.out.cell (World.block_lt_of_cell? w _ uA)).trans uA),((HB.out.cell (World.block_lt_of_cell? w _ uL)).trans uL),((HB.out.cell (World.block_lt_of_cell? w _ uK)).trans uK),((HB.out.cell (World.block_lt_of_cell? w _ uJ)).trans uJ),((HB.out.cell (World.block_lt_of_cell? w _ uI)).trans uI),((HB.out.cell (World.block_lt_of_cell? w _ uH)).trans uH),((HB.out.cell (World.block_lt_of_cell? w _ uG)).trans uG)⟩ (fun hHeld=>?_)
     clear hK K
     refine jW (a':=?_) ?_ ?_
     rotate_left
     ·show Act.put _ (some 8) _=_
      simp only [Act.put,List.setIfInBounds_toArray,List.set_cons_zero,List.set_cons_succ,aU,aV]
      rfl
     refine aN (i:=2) (N:=some 9) #[true,true,true,false,false,false,false,false,false,false,false,false,false,false,false,false,false,false,false,false,false,false,false,false,false,false,false,false,false,false,false,false,false,false,false,false,false] rfl rfl (bg dc.out aq) (fun _ _ _ h=>h) (Or.inl ⟨by rfl,cD⟩) cL ?_
     refine aN (i:=3) (N:=some 10) #[true,true,true,true,false,false,false,false,false,false,false,false,false,false,false,false,false,false,false,false,false,false,false,false,false,false,false,false,false,false,false,false,false,false,false,false,false] rfl rfl (bg dc.out aq) (fun _ _ _ h=>h) (Or.inl ⟨by rfl,cD⟩) cL ?_
     refine aN (i:=4) (N:=some 11) #[true,true,true,true,true,false,false,false,false,false,false,false,false,false,false,false,false,false,false,false,false,false,false,false,false,false,false,false,false,false,false,false,false,false,false,false,false] rfl rfl (bg dc.out aq) (fun _ _ _ h=>h) (Or.inl ⟨by rfl,cD⟩) cL ?_
     refine aN (i:=6) (N:=some 13) #[true,true,true,true,true,false,true,false,false,false,false,false,false,false,false,false,false,false,false,false,false,false,false,false,false,false,false,false,false,false,false,false,false,false,false,false,false] rfl rfl (bg dc.out aq) (fun _ _ _ h=>h) (Or.inl ⟨by rfl,cD⟩) cL ?_
     refine fN (i:=5) (N:=some 12) #[true,true,true,true,true,true,true,false,false,false,false,false,false,false,false,false,false,false,false,false,false,false,false,false,false,false,false,false,false,false,false,false,false,false,false,false,false] rfl rfl (eU dc.out q8.out aq) (fun _ _ _ h=>h) (Or.inl ⟨by rfl,tQ⟩) hHeld cL ?_
     refine aN (i:=7) (N:=some 14) #[true,true,true,true,true,true,true,true,false,false,false,false,false,false,false,false,false,false,false,false,false,false,false,false,false,false,false,false,false,false,false,false,false,false,false,false,false] rfl rfl (bg dc.out aq) (fun _ _ _ h=>h) (Or.inl ⟨by rfl,cD⟩) cL ?_
     refine aN (i:=8) (N:=some 15) #[true,true,true,true,true,true,true,true,true,false,false,false,false,false,false,false,false,false,false,false,false,false,false,false,false,false,false,false,false,false,false,false,false,false,false,false,false] rfl rfl (bg dc.out aq) (fun _ _ _ h=>h) (Or.inl ⟨by rfl,cD⟩) cL ?_
     refine aN (i:=9) (N:=some 16) #[true,true,true,true,true,true,true,true,true,true,false,false,false,false,false,false,false,false,false,false,false,false,false,false,false,false,false,false,false,false,false,false,false,false,false,false,false] rfl rfl (bg dc.out aq) (fun _ _ _ h=>h) (Or.inl ⟨by rfl,cD⟩) cL ?_
     refine aN (i:=10) (N:=some 17) #[true,true,true,true,true,true,true,true,true,true,true,false,false,false,false,false,false,false,false,false,false,false,false,false,false,false,false,false,false,false,false,false,false,false,false,false,false] rfl rfl (bg dc.out aq) (fun _ _ _ h=>h) (Or.inl ⟨by rfl,cD⟩) cL ?_
     refine aN (i:=11) (N:=some 18) #[true,true,true,true,true,true,true,true,true,true,true,true,false,false,false,false,false,false,false,false,false,false,false,false,false,false,false,false,false,false,false,false,false,false,false,false,false] rfl rfl (bg dc.out aq) (fun _ _ _ h=>h) (Or.inl ⟨by rfl,cD⟩) cL ?_
     refine fN (i:=12) (N:=some 19) #[true,true,true,true,true,true,true,true,true,true,true,true,true,false,false,false,false,false,false,false,false,false,false,false,false,false,false,false,false,false,false,false,false,false,false,false,false] rfl rfl (eU dc.out q8.out aq) (fun _ _ _ h=>h) (Or.inl ⟨by rfl,tQ⟩) hHeld cL ?_
     refine aN (i:=13) (N:=some 20) #[true,true,true,true,true,true,true,true,true,true,true,true,true,true,false,false,false,false,false,false,false,false,false,false,false,false,false,false,false,false,false,false,false,false,false,false,false] rfl rfl (bg dc.out aq) (fun _ _ _ h=>h) (Or.inl ⟨by rfl,cD⟩) cL ?_
     refine aN (i:=14) (N:=some 21) #[true,true,true,true,true,true,true,true,true,true,true,true,true,true,true,false,false,false,false,false,false,false,false,false,false,false,false,false,false,false,false,false,false,false,false,false,false] rfl rfl (bg dc.out aq) (fun _ _ _ h=>h) (Or.inl ⟨by rfl,cD⟩) cL ?_
     refine aN (i:=15) (N:=some 22) #[true,true,true,true,true,true,true,true,true,true,true,true,true,true,true,true,false,false,false,false,false,false,false,false,false,false,false,false,false,false,false,false,false,false,false,false,false] rfl rfl (bg dc.out aq) (fun _ _ _ h=>h) (Or.inl ⟨by rfl,cD⟩) cL ?_
     refine fN (i:=16) (N:=some 23) #[true,true,true,true,true,true,true,true,true,true,true,true,true,true,true,true,true,false,false,false,false,false,false,false,false,false,false,false,false,false,false,false,false,false,false,false,false] rfl rfl (eU dc.out q8.out aq) (fun _ _ _ h=>h) (Or.inl ⟨by rfl,tQ⟩) hHeld cL ?_
     refine aN (i:=17) (N:=some 24) #[true,true,true,true,true,true,true,true,true,true,true,true,true,true,true,true,true,true,false,false,false,false,false,false,false,false,false,false,false,false,false,false,false,false,false,false,false] rfl rfl (bg dc.out aq) (fun _ _ _ h=>h) (Or.inl ⟨by rfl,cD⟩) cL ?_
     refine aN (i:=18) (N:=some 25) #[true,true,true,true,true,true,true,true,true,true,true,true,true,true,true,true,true,true,true,false,false,false,false,false,false,false,false,false,false,false,false,false,false,false,false,false,false] rfl rfl (bg dc.out aq) (fun _ _ _ h=>h) (Or.inl ⟨by rfl,cD⟩) cL ?_
     refine aN (i:=19) (N:=some 26) #[true,true,true,true,true,true,true,true,true,true,true,true,true,true,true,true,true,true,true,true,false,false,false,false,false,false,false,false,false,false,false,false,false,false,false,false,false] rfl rfl (bg dc.out aq) (fun _ _ _ h=>h) (Or.inl ⟨by rfl,cD⟩) cL ?_
     refine aN (i:=20) (N:=some 27) #[true,true,true,true,true,true,true,true,true,true,true,true,true,true,true,true,true,true,true,true,true,false,false,false,false,false,false,false,false,false,false,false,false,false,false,false,false] rfl rfl (bg dc.out aq) (fun _ _ _ h=>h) (Or.inl ⟨by rfl,cD⟩) cL ?_
     refine aN (i:=21) (N:=some 28) #[true,true,true,true,true,true,true,true,true,true,true,true,true,true,true,true,true,true,true,true,true,true,false,false,false,false,false,false,false,false,false,false,false,false,false,false,false] rfl rfl (bg dc.out aq) (fun _ _ _ h=>h) (Or.inl ⟨by rfl,cD⟩) cL ?_
     refine aN (i:=25) (N:=some 32) #[true,true,true,true,true,true,true,true,true,true,true,true,true,true,true,true,true,true,true,true,true,true,false,false,false,true,false,false,false,false,false,false,false,false,false,false,false] rfl rfl (bg dc.out aq) (fun _ _ _ h=>h) (Or.inl ⟨by rfl,cD⟩) cL ?_
     refine aN (i:=26) (N:=some 33) #[true,true,true,true,true,true,true,true,true,true,true,true,true,true,true,true,true,true,true,true,true,true,false,false,false,true,true,false,false,false,false,false,false,false,false,false,false] rfl rfl (bg dc.out aq) (fun _ _ _ h=>h) (Or.inl ⟨by rfl,cD⟩) cL ?_
     refine aN (i:=28) (N:=some 35) #[true,true,true,true,true,true,true,true,true,true,true,true,true,true,true,true,true,true,true,true,true,true,false,false,false,true,true,false,true,false,false,false,false,false,false,false,false] rfl rfl (bg dc.out aq) (fun _ _ _ h=>h) (Or.inl ⟨by rfl,cD⟩) cL ?_
     refine fN (i:=22) (N:=some 29) #[true,true,true,true,true,true,true,true,true,true,true,true,true,true,true,true,true,true,true,true,true,true,true,false,false,true,true,false,true,false,false,false,false,false,false,false,false] rfl rfl (eU dc.out q8.out aq) (fun _ _ _ h=>h) (Or.inl ⟨by rfl,tQ⟩) hHeld cL ?_
     refine aN (i:=23) (N:=some 30) #[true,true,true,true,true,true,true,true,true,true,true,true,true,true,true,true,true,true,true,true,true,true,true,true,false,true,true,false,true,false,false,false,false,false,false,false,false] rfl rfl (bg dc.out aq) (fun _ _ _ h=>h) (Or.inl ⟨by rfl,cD⟩) cL ?_
     refine fN (i:=24) (N:=some 31) #[true,true,true,true,true,true,true,true,true,true,true,true,true,true,true,true,true,true,true,true,true,true,true,true,true,true,true,false,true,false,false,false,false,false,false,false,false] rfl rfl (eU dc.out q8.out aq) (fun _ _ _ h=>h) (Or.inl ⟨by rfl,tQ⟩) hHeld cL ?_
     refine fN (i:=27) (N:=some 34) #[true,true,true,true,true,true,true,true,true,true,true,true,true,true,true,true,true,true,true,true,true,true,true,true,true,true,true,true,true,false,false,false,false,false,false,false,false] rfl rfl (eU dc.out q8.out aq) (fun _ _ _ h=>h) (Or.inl ⟨by rfl,tQ⟩) hHeld cL ?_
     refine fN (i:=29) (N:=some 36) #[true,true,true,true,true,true,true,true,true,true,true,true,true,true,true,true,true,true,true,true,true,true,true,true,true,true,true,true,true,true,false,false,false,false,false,false,false] rfl rfl (eU dc.out q8.out aq) (fun _ _ _ h=>h) (Or.inl ⟨by rfl,tQ⟩) hHeld cL ?_
     refine aN (i:=30) (N:=some 37) #[true,true,true,true,true,true,true,true,true,true,true,true,true,true,true,true,true,true,true,true,true,true,true,true,true,true,true,true,true,true,true,false,false,false,false,false,false] rfl rfl (bg dc.out aq) (fun _ _ _ h=>h) (Or.inl ⟨by rfl,cD⟩) cL ?_
     refine aN (i:=31) (N:=some 38) #[true,true,true,true,true,true,true,true,true,true,true,true,true,true,true,true,true,true,true,true,true,true,true,true,true,true,true,true,true,true,true,true,false,false,false,false,false] rfl rfl (bg dc.out aq) (fun _ _ _ h=>h) (Or.inl ⟨by rfl,cD⟩) cL ?_
     refine fN (i:=32) (N:=some 39) #[true,true,true,true,true,true,true,true,true,true,true,true,true,true,true,true,true,true,true,true,true,true,true,true,true,true,true,true,true,true,true,true,true,false,false,false,false] rfl rfl (eU dc.out q8.out aq) (fun _ _ _ h=>h) (Or.inl ⟨by rfl,tQ⟩) hHeld cL ?_
     refine aN (i:=33) (N:=some 40) #[true,true,true,true,true,true,true,true,true,true,true,true,true,true,true,true,true,true,true,true,true,true,true,true,true,true,true,true,true,true,true,true,true,true,false,false,false] rfl rfl (bg dc.out aq) (fun _ _ _ h=>h) (Or.inl ⟨by rfl,cD⟩) cL ?_
     refine aN (i:=34) (N:=some 41) #[true,true,true,true,true,true,true,true,true,true,true,true,true,true,true,true,true,true,true,true,true,true,true,true,true,true,true,true,true,true,true,true,true,true,true,false,false] rfl rfl (bg dc.out aq) (fun _ _ _ h=>h) (Or.inl ⟨by rfl,cD⟩) cL ?_
     refine aN (i:=35) (N:=some 42) #[true,true,true,true,true,true,true,true,true,true,true,true,true,true,true,true,true,true,true,true,true,true,true,true,true,true,true,true,true,true,true,true,true,true,true,true,false] rfl rfl (bg dc.out aq) (fun _ _ _ h=>h) (Or.inl ⟨by rfl,cD⟩) cL ?_
     refine aN (i:=36) (N:=some 6) #[true,true,true,true,true,true,true,true,true,true,true,true,true,true,true,true,true,true,true,true,true,true,true,true,true,true,true,true,true,true,true,true,true,true,true,true,true] rfl rfl (bg dc.out aq) (fun _ _ _ h=>h) (Or.inl ⟨by rfl,cD⟩) cL ?_
     refine nk (nD dc.out aq) ?_
     try go_wp2
     go_ret
     exact ⟨by rfl,aJ⟩
    ·rw [if_neg c12] at H
     have J0:=beq_eq_false_iff_ne.mpr c12
     have SU:=bne_iff_ne.mpr c12
     obtain rfl:=Option.some.inj H
     go_enter Tryz.func106,Tryz.ntmps106
     try go_wp2_with (first|((with_reducible refine bq (N:=3) rfl ?_);(try (refine bV (by rfl) ?_;dsimp only));refine br ?hg (N:=3) ?hd (cs:=#[.int .i64 bf,.bool true,.slice dR cH.length dS,.string bE,.string bK,.bool bU,.slice cU bN.length cT,.slice dU cM.length dV,.int .i64 bX]) (t:=34) ?hr ?_;(case hd=>rfl);(case hg=>rfl);(case hr=>(go_simp;done));intro fo hg tK bJ hb;have cz:=ah.mk (bJ);have OT:=ah.mk ((bI:w.heap.size≤fo));have OU:=ah.mk ((bI:w.heap.size≤fo));replace HB:=ah.mk (ay aJ hb);clear hb bJ hg)|((with_reducible refine bq (N:=4) rfl ?_);(try (refine bV (by rfl) ?_;dsimp only));refine br ?hg (N:=4) ?hd (cs:=#[.int .i64 iL,.bool jh,.slice n7 kM.length n9,.string iU,.string iM,.bool iN,.slice lO iI.length lQ,.slice oa lD.length oc,.int .i64 jA]) (t:=34) ?hr ?_;(case hd=>rfl);(case hg=>rfl);(case hr=>(go_simp;done));intro iZ hg w19 bJ hb;have fU:=ah.mk (bJ);have OV:=ah.mk ((bI:w.heap.size≤iZ));have OW:=ah.mk ((bI:w.heap.size≤iZ));replace HB:=ah.mk (ay aJ hb);have wY:=ah.mk ((Dc:fo≠iZ));have wZ:=ah.mk ((Dd:iZ≠fo));replace cz:=ah.mk (az sJ hb);clear hb bJ hg))
     have jT:=ah.mk (iw cz.out)
     have jU:=ah.mk (iw fU.out)
     have mO:=ah.mk (fW HB.out)
     clear cz
     clear fU
     clear HB
     have cz:=jT
     have fU:=jU
     have HB:=mO
     clear jT jU mO
     refine kK (n:=37) (S:=fun w'=>w'.cell? ⟨fo,0,none⟩=some (.int .i64 bf)∧w'.cell? ⟨fo,1,none⟩=some (.bool true)∧w'.cell? ⟨fo,2,none⟩=some (.slice dR cH.length dS)∧w'.cell? ⟨fo,3,none⟩=some (.string bE)∧w'.cell? ⟨fo,4,none⟩=some (.string bK)∧w'.cell? ⟨fo,5,none⟩=some (.bool bU)∧w'.cell? ⟨fo,6,none⟩=some (.slice cU bN.length cT)∧w'.cell? ⟨fo,7,none⟩=some (.slice dU cM.length dV)∧w'.cell? ⟨fo,8,none⟩=some (.int .i64 bX)) (ds:=[]) #[false,false,false,false,false,false,false,false,false,false,false,false,false,false,false,false,false,false,false,false,false,false,false,false,false,false,false,false,false,false,false,false,false,false,false,false,false] aq (by rfl) (by rfl) ⟨(af cz.out 0).trans rfl,(af cz.out 1).trans rfl,(af cz.out 2).trans rfl,(af cz.out 3).trans rfl,(af cz.out 4).trans rfl,(af cz.out 5).trans rfl,(af cz.out 6).trans rfl,(af cz.out 7).trans rfl,(af cz.out 8).trans rfl⟩ (fun hHeld=>?_);refine kB dB.LS dB.DU (fun dc q8=>?_)
     generalize w19.drew=wj at cz fU HB hHeld ⊢
     refine fN (i:=0) (N:=some 7) #[true,false,false,false,false,false,false,false,false,false,false,false,false,false,false,false,false,false,false,false,false,false,false,false,false,false,false,false,false,false,false,false,false,false,false,false,false] rfl rfl (eU dc.out q8.out aq) (fun _ _ _ h=>h) (Or.inl ⟨by rfl,pF⟩) hHeld cL ?_
     refine nL (i:=1) (N:=some 8) #[true,true,false,false,false,false,false,false,false,false,false,false,false,false,false,false,false,false,false,false,false,false,false,false,false,false,false,false,false,false,false,false,false,false,false,false,false] rfl rfl (jJ dc.out aq) bB (fun K hK=>?_)
     refine lg Tryz.func63 aq rfl #[.agg #[.int .i64 bf,.bool true,.slice dR cH.length dS,.string bE,.string bK,.bool bU,.slice cU bN.length cT,.slice dU cM.length dV,.int .i64 bX]] (by rfl) rfl rfl dI ?_
     with_reducible refine (cY.calls bf true _ _ cH bE bK bU _ _ bN _ _ cM bX false _ ?bk ?bM ?cQ ?fk ?gf ?gh A4.out).mono ?_
     (case bk=>repeat (exact (Kd.bD mI.out HB.out)))
     (case bM=>exact mJ.out)
     (case cQ=>repeat (exact (Kd.bD lH.out HB.out)))
     (case fk=>exact mA.out)
     (case gf=>repeat (exact (Kd.bD vW.out HB.out)))
     (case gh=>exact vX.out)
     rintro e QC ⟨rfl,hb⟩
     refine ⟨_,rfl,?_⟩
     have jT:=ah.mk (az sJ hb)
     have jU:=ah.mk (az (g:=iZ) (o:= .cells #[.int .i64 iL,.bool jh,.slice n7 kM.length n9,.string iU,.string iM,.bool iN,.slice lO iI.length lQ,.slice oa lD.length oc,.int .i64 jA] 34 (0,0)) (by exact fU.out) hb)
     have mO:=ah.mk (ay aJ hb)
     clear cz
     clear fU
     clear HB
     have cz:=jT
     have fU:=jU
     have HB:=mO
     clear jT jU mO
     refine hK.out _ _ ⟨(af cz.out 0).trans rfl,(af cz.out 1).trans rfl,(af cz.out 2).trans rfl,(af cz.out 3).trans rfl,(af cz.out 4).trans rfl,(af cz.out 5).trans rfl,(af cz.out 6).trans rfl,(af cz.out 7).trans rfl,(af cz.out 8).trans rfl⟩ (fun hHeld=>?_)
     clear hK K
     refine jW (a':=?_) ?_ ?_
     rotate_left
     ·show Act.put _ (some 8) _=_
      simp only [Act.put,List.setIfInBounds_toArray,List.set_cons_zero,List.set_cons_succ,aU,aV]
      rfl
     refine aN (i:=2) (N:=some 9) #[true,true,true,false,false,false,false,false,false,false,false,false,false,false,false,false,false,false,false,false,false,false,false,false,false,false,false,false,false,false,false,false,false,false,false,false,false] rfl rfl (bg dc.out aq) (fun _ _ _ h=>h) (Or.inl ⟨by rfl,cD⟩) cL ?_
     refine aN (i:=3) (N:=some 10) #[true,true,true,true,false,false,false,false,false,false,false,false,false,false,false,false,false,false,false,false,false,false,false,false,false,false,false,false,false,false,false,false,false,false,false,false,false] rfl rfl (bg dc.out aq) (fun _ _ _ h=>h) (Or.inl ⟨by rfl,cD⟩) cL ?_
     refine aN (i:=4) (N:=some 11) #[true,true,true,true,true,false,false,false,false,false,false,false,false,false,false,false,false,false,false,false,false,false,false,false,false,false,false,false,false,false,false,false,false,false,false,false,false] rfl rfl (bg dc.out aq) (fun _ _ _ h=>h) (Or.inl ⟨by rfl,cD⟩) cL ?_
     refine aN (i:=6) (N:=some 13) #[true,true,true,true,true,false,true,false,false,false,false,false,false,false,false,false,false,false,false,false,false,false,false,false,false,false,false,false,false,false,false,false,false,false,false,false,false] rfl rfl (bg dc.out aq) (fun _ _ _ h=>h) (Or.inl ⟨by rfl,cD⟩) cL ?_
     refine fN (i:=5) (N:=some 12) #[true,true,true,true,true,true,true,false,false,false,false,false,false,false,false,false,false,false,false,false,false,false,false,false,false,false,false,false,false,false,false,false,false,false,false,false,false] rfl rfl (eU dc.out q8.out aq) (fun _ _ _ h=>h) (Or.inl ⟨by rfl,pF⟩) hHeld cL ?_
     refine aN (i:=7) (N:=some 14) #[true,true,true,true,true,true,true,true,false,false,false,false,false,false,false,false,false,false,false,false,false,false,false,false,false,false,false,false,false,false,false,false,false,false,false,false,false] rfl rfl (bg dc.out aq) (fun _ _ _ h=>h) (Or.inl ⟨by rfl,cD⟩) cL ?_
     refine aN (i:=8) (N:=some 15) #[true,true,true,true,true,true,true,true,true,false,false,false,false,false,false,false,false,false,false,false,false,false,false,false,false,false,false,false,false,false,false,false,false,false,false,false,false] rfl rfl (bg dc.out aq) (fun _ _ _ h=>h) (Or.inl ⟨by rfl,cD⟩) cL ?_
     refine aN (i:=9) (N:=some 16) #[true,true,true,true,true,true,true,true,true,true,false,false,false,false,false,false,false,false,false,false,false,false,false,false,false,false,false,false,false,false,false,false,false,false,false,false,false] rfl rfl (bg dc.out aq) (fun _ _ _ h=>h) (Or.inl ⟨by rfl,cD⟩) cL ?_
     refine aN (i:=10) (N:=some 17) #[true,true,true,true,true,true,true,true,true,true,true,false,false,false,false,false,false,false,false,false,false,false,false,false,false,false,false,false,false,false,false,false,false,false,false,false,false] rfl rfl (bg dc.out aq) (fun _ _ _ h=>h) (Or.inl ⟨by rfl,cD⟩) cL ?_
     refine aN (i:=11) (N:=some 18) #[true,true,true,true,true,true,true,true,true,true,true,true,false,false,false,false,false,false,false,false,false,false,false,false,false,false,false,false,false,false,false,false,false,false,false,false,false] rfl rfl (bg dc.out aq) (fun _ _ _ h=>h) (Or.inl ⟨by rfl,cD⟩) cL ?_
     refine fN (i:=12) (N:=some 19) #[true,true,true,true,true,true,true,true,true,true,true,true,true,false,false,false,false,false,false,false,false,false,false,false,false,false,false,false,false,false,false,false,false,false,false,false,false] rfl rfl (eU dc.out q8.out aq) (fun _ _ _ h=>h) (Or.inl ⟨by rfl,pF⟩) hHeld cL ?_
     refine aN (i:=13) (N:=some 20) #[true,true,true,true,true,true,true,true,true,true,true,true,true,true,false,false,false,false,false,false,false,false,false,false,false,false,false,false,false,false,false,false,false,false,false,false,false] rfl rfl (bg dc.out aq) (fun _ _ _ h=>h) (Or.inl ⟨by rfl,cD⟩) cL ?_
     refine aN (i:=14) (N:=some 21) #[true,true,true,true,true,true,true,true,true,true,true,true,true,true,true,false,false,false,false,false,false,false,false,false,false,false,false,false,false,false,false,false,false,false,false,false,false] rfl rfl (bg dc.out aq) (fun _ _ _ h=>h) (Or.inl ⟨by rfl,cD⟩) cL ?_
     refine aN (i:=15) (N:=some 22) #[true,true,true,true,true,true,true,true,true,true,true,true,true,true,true,true,false,false,false,false,false,false,false,false,false,false,false,false,false,false,false,false,false,false,false,false,false] rfl rfl (bg dc.out aq) (fun _ _ _ h=>h) (Or.inl ⟨by rfl,cD⟩) cL ?_
     refine fN (i:=16) (N:=some 23) #[true,true,true,true,true,true,true,true,true,true,true,true,true,true,true,true,true,false,false,false,false,false,false,false,false,false,false,false,false,false,false,false,false,false,false,false,false] rfl rfl (eU dc.out q8.out aq) (fun _ _ _ h=>h) (Or.inl ⟨by rfl,pF⟩) hHeld cL ?_
     refine aN (i:=17) (N:=some 24) #[true,true,true,true,true,true,true,true,true,true,true,true,true,true,true,true,true,true,false,false,false,false,false,false,false,false,false,false,false,false,false,false,false,false,false,false,false] rfl rfl (bg dc.out aq) (fun _ _ _ h=>h) (Or.inl ⟨by rfl,cD⟩) cL ?_
     refine aN (i:=18) (N:=some 25) #[true,true,true,true,true,true,true,true,true,true,true,true,true,true,true,true,true,true,true,false,false,false,false,false,false,false,false,false,false,false,false,false,false,false,false,false,false] rfl rfl (bg dc.out aq) (fun _ _ _ h=>h) (Or.inl ⟨by rfl,cD⟩) cL ?_
     refine aN (i:=19) (N:=some 26) #[true,true,true,true,true,true,true,true,true,true,true,true,true,true,true,true,true,true,true,true,false,false,false,false,false,false,false,false,false,false,false,false,false,false,false,false,false] rfl rfl (bg dc.out aq) (fun _ _ _ h=>h) (Or.inl ⟨by rfl,cD⟩) cL ?_
     refine aN (i:=20) (N:=some 27) #[true,true,true,true,true,true,true,true,true,true,true,true,true,true,true,true,true,true,true,true,true,false,false,false,false,false,false,false,false,false,false,false,false,false,false,false,false] rfl rfl (bg dc.out aq) (fun _ _ _ h=>h) (Or.inl ⟨by rfl,cD⟩) cL ?_
     refine aN (i:=21) (N:=some 28) (v:=undef) (a':=?_) #[true,true,true,true,true,true,true,true,true,true,true,true,true,true,true,true,true,true,true,true,true,true,false,false,false,false,false,false,false,false,false,false,false,false,false,false,false] rfl rfl (bg dc.out aq) (fun _ _ _ h=>h) (Or.inr ⟨by rfl,rfl⟩) ?_ ?_
     rotate_left
     ·simp only [Act.put,List.setIfInBounds_toArray,List.set_cons_zero,List.set_cons_succ,aU,aV]
      rfl
     refine aN (i:=22) (N:=some 29) (v:=undef) (a':=?_) #[true,true,true,true,true,true,true,true,true,true,true,true,true,true,true,true,true,true,true,true,true,true,true,false,false,false,false,false,false,false,false,false,false,false,false,false,false] rfl rfl (bg dc.out aq) (fun _ _ _ h=>h) (Or.inr ⟨by rfl,rfl⟩) ?_ ?_
     rotate_left
     ·simp only [Act.put,List.setIfInBounds_toArray,List.set_cons_zero,List.set_cons_succ,aU,aV]
      rfl
     refine aN (i:=23) (N:=some 30) (v:=undef) (a':=?_) #[true,true,true,true,true,true,true,true,true,true,true,true,true,true,true,true,true,true,true,true,true,true,true,true,false,false,false,false,false,false,false,false,false,false,false,false,false] rfl rfl (bg dc.out aq) (fun _ _ _ h=>h) (Or.inr ⟨by rfl,rfl⟩) ?_ ?_
     rotate_left
     ·simp only [Act.put,List.setIfInBounds_toArray,List.set_cons_zero,List.set_cons_succ,aU,aV]
      rfl
     refine aN (i:=24) (N:=some 31) (v:=undef) (a':=?_) #[true,true,true,true,true,true,true,true,true,true,true,true,true,true,true,true,true,true,true,true,true,true,true,true,true,false,false,false,false,false,false,false,false,false,false,false,false] rfl rfl (bg dc.out aq) (fun _ _ _ h=>h) (Or.inr ⟨by rfl,rfl⟩) ?_ ?_
     rotate_left
     ·simp only [Act.put,List.setIfInBounds_toArray,List.set_cons_zero,List.set_cons_succ,aU,aV]
      rfl
     refine aN (i:=25) (N:=some 32) (v:=undef) (a':=?_) #[true,true,true,true,true,true,true,true,true,true,true,true,true,true,true,true,true,true,true,true,true,true,true,true,true,true,false,false,false,false,false,false,false,false,false,false,false] rfl rfl (bg dc.out aq) (fun _ _ _ h=>h) (Or.inr ⟨by rfl,rfl⟩) ?_ ?_
     rotate_left
     ·simp only [Act.put,List.setIfInBounds_toArray,List.set_cons_zero,List.set_cons_succ,aU,aV]
      rfl
     refine aN (i:=26) (N:=some 33) (v:=undef) (a':=?_) #[true,true,true,true,true,true,true,true,true,true,true,true,true,true,true,true,true,true,true,true,true,true,true,true,true,true,true,false,false,false,false,false,false,false,false,false,false] rfl rfl (bg dc.out aq) (fun _ _ _ h=>h) (Or.inr ⟨by rfl,rfl⟩) ?_ ?_
     rotate_left
     ·simp only [Act.put,List.setIfInBounds_toArray,List.set_cons_zero,List.set_cons_succ,aU,aV]
      rfl
     refine aN (i:=27) (N:=some 34) (v:=undef) (a':=?_) #[true,true,true,true,true,true,true,true,true,true,true,true,true,true,true,true,true,true,true,true,true,true,true,true,true,true,true,true,false,false,false,false,false,false,false,false,false] rfl rfl (bg dc.out aq) (fun _ _ _ h=>h) (Or.inr ⟨by rfl,rfl⟩) ?_ ?_
     rotate_left
     ·simp only [Act.put,List.setIfInBounds_toArray,List.set_cons_zero,List.set_cons_succ,aU,aV]
      rfl
     refine aN (i:=28) (N:=some 35) (v:=undef) (a':=?_) #[true,true,true,true,true,true,true,true,true,true,true,true,true,true,true,true,true,true,true,true,true,true,true,true,true,true,true,true,true,false,false,false,false,false,false,false,false] rfl rfl (bg dc.out aq) (fun _ _ _ h=>h) (Or.inr ⟨by rfl,rfl⟩) ?_ ?_
     rotate_left
     ·simp only [Act.put,List.setIfInBounds_toArray,List.set_cons_zero,List.set_cons_succ,aU,aV]
      rfl
     refine aN (i:=29) (N:=some 36) (v:=undef) (a':=?_) #[true,true,true,true,true,true,true,true,true,true,true,true,true,true,true,true,true,true,true,true,true,true,true,true,true,true,true,true,true,true,false,false,false,false,false,false,false] rfl rfl (bg dc.out aq) (fun _ _ _ h=>h) (Or.inr ⟨by rfl,rfl⟩) ?_ ?_
     rotate_left
     ·simp only [Act.put,List.setIfInBounds_toArray,List.set_cons_zero,List.set_cons_succ,aU,aV]
      rfl
     refine aN (i:=30) (N:=some 37) (v:=undef) (a':=?_) #[true,true,true,true,true,true,true,true,true,true,true,true,true,true,true,true,true,true,true,true,true,true,true,true,true,true,true,true,true,true,true,false,false,false,false,false,false] rfl rfl (bg dc.out aq) (fun _ _ _ h=>h) (Or.inr ⟨by rfl,rfl⟩) ?_ ?_
     rotate_left
     ·simp only [Act.put,List.setIfInBounds_toArray,List.set_cons_zero,List.set_cons_succ,aU,aV]
      rfl
     refine aN (i:=31) (N:=some 38) (v:=undef) (a':=?_) #[true,true,true,true,true,true,true,true,true,true,true,true,true,true,true,true,true,true,true,true,true,true,true,true,true,true,true,true,true,true,true,true,false,false,false,false,false] rfl rfl (bg dc.out aq) (fun _ _ _ h=>h) (Or.inr ⟨by rfl,rfl⟩) ?_ ?_
     rotate_left
     ·simp only [Act.put,List.setIfInBounds_toArray,List.set_cons_zero,List.set_cons_succ,aU,aV]
      rfl
     refine aN (i:=32) (N:=some 39) (v:=undef) (a':=?_) #[true,true,true,true,true,true,true,true,true,true,true,true,true,true,true,true,true,true,true,true,true,true,true,true,true,true,true,true,true,true,true,true,true,false,false,false,false] rfl rfl (bg dc.out aq) (fun _ _ _ h=>h) (Or.inr ⟨by rfl,rfl⟩) ?_ ?_
     rotate_left
     ·simp only [Act.put,List.setIfInBounds_toArray,List.set_cons_zero,List.set_cons_succ,aU,aV]
      rfl
     refine aN (i:=33) (N:=some 40) (v:=undef) (a':=?_) #[true,true,true,true,true,true,true,true,true,true,true,true,true,true,true,true,true,true,true,true,true,true,true,true,true,true,true,true,true,true,true,true,true,true,false,false,false] rfl rfl (bg dc.out aq) (fun _ _ _ h=>h) (Or.inr ⟨by rfl,rfl⟩) ?_ ?_
     rotate_left
     ·simp only [Act.put,List.setIfInBounds_toArray,List.set_cons_zero,List.set_cons_succ,aU,aV]
      rfl
     refine aN (i:=34) (N:=some 41) (v:=undef) (a':=?_) #[true,true,true,true,true,true,true,true,true,true,true,true,true,true,true,true,true,true,true,true,true,true,true,true,true,true,true,true,true,true,true,true,true,true,true,false,false] rfl rfl (bg dc.out aq) (fun _ _ _ h=>h) (Or.inr ⟨by rfl,rfl⟩) ?_ ?_
     rotate_left
     ·simp only [Act.put,List.setIfInBounds_toArray,List.set_cons_zero,List.set_cons_succ,aU,aV]
      rfl
     refine aN (i:=35) (N:=some 42) #[true,true,true,true,true,true,true,true,true,true,true,true,true,true,true,true,true,true,true,true,true,true,true,true,true,true,true,true,true,true,true,true,true,true,true,true,false] rfl rfl (bg dc.out aq) (fun _ _ _ h=>h) (Or.inl ⟨by rfl,cD⟩) cL ?_
     refine aN (i:=36) (N:=some 6) #[true,true,true,true,true,true,true,true,true,true,true,true,true,true,true,true,true,true,true,true,true,true,true,true,true,true,true,true,true,true,true,true,true,true,true,true,true] rfl rfl (bg dc.out aq) (fun _ _ _ h=>h) (Or.inl ⟨by rfl,cD⟩) cL ?_
     refine nk (nD dc.out aq) ?_
     try go_wp2
     go_ret
     exact ⟨by rfl,aJ⟩
   ·replace c11:=Bool.eq_false_iff.mpr c11
    subst c11
    rw [if_neg (show ¬ (false=true) by decide)] at H
    obtain rfl:=Option.some.inj H
    go_enter Tryz.func106,Tryz.ntmps106
    try go_wp2_with (first|((with_reducible refine bq (N:=3) rfl ?_);(try (refine bV (by rfl) ?_;dsimp only));refine br ?hg (N:=3) ?hd (cs:=#[.int .i64 bf,.bool false,.slice dR cH.length dS,.string bE,.string bK,.bool bU,.slice cU bN.length cT,.slice dU cM.length dV,.int .i64 bX]) (t:=34) ?hr ?_;(case hd=>rfl);(case hg=>rfl);(case hr=>(go_simp;done));intro fo hg UC bJ hb;have cz:=ah.mk (bJ);have OT:=ah.mk ((bI:w.heap.size≤fo));have OU:=ah.mk ((bI:w.heap.size≤fo));replace HB:=ah.mk (ay aJ hb);clear hb bJ hg)|((with_reducible refine bq (N:=4) rfl ?_);(try (refine bV (by rfl) ?_;dsimp only));refine br ?hg (N:=4) ?hd (cs:=#[.int .i64 iL,.bool jh,.slice n7 kM.length n9,.string iU,.string iM,.bool iN,.slice lO iI.length lQ,.slice oa lD.length oc,.int .i64 jA]) (t:=34) ?hr ?_;(case hd=>rfl);(case hg=>rfl);(case hr=>(go_simp;done));intro iZ hg rG bJ hb;have fU:=ah.mk (bJ);have OV:=ah.mk ((bI:w.heap.size≤iZ));have OW:=ah.mk ((bI:w.heap.size≤iZ));replace HB:=ah.mk (ay aJ hb);have wY:=ah.mk ((Dc:fo≠iZ));have wZ:=ah.mk ((Dd:iZ≠fo));replace cz:=ah.mk (az sJ hb);clear hb bJ hg))
    have jT:=ah.mk (iw cz.out)
    have jU:=ah.mk (iw fU.out)
    have mO:=ah.mk (fW HB.out)
    clear cz
    clear fU
    clear HB
    have cz:=jT
    have fU:=jU
    have HB:=mO
    clear jT jU mO
    refine kK (n:=37) (S:=fun w'=>w'.cell? ⟨fo,0,none⟩=some (.int .i64 bf)∧w'.cell? ⟨fo,1,none⟩=some (.bool false)∧w'.cell? ⟨fo,2,none⟩=some (.slice dR cH.length dS)∧w'.cell? ⟨fo,3,none⟩=some (.string bE)∧w'.cell? ⟨fo,4,none⟩=some (.string bK)∧w'.cell? ⟨fo,5,none⟩=some (.bool bU)∧w'.cell? ⟨fo,6,none⟩=some (.slice cU bN.length cT)∧w'.cell? ⟨fo,7,none⟩=some (.slice dU cM.length dV)∧w'.cell? ⟨fo,8,none⟩=some (.int .i64 bX)) (ds:=[]) #[false,false,false,false,false,false,false,false,false,false,false,false,false,false,false,false,false,false,false,false,false,false,false,false,false,false,false,false,false,false,false,false,false,false,false,false,false] aq (by rfl) (by rfl) ⟨(af cz.out 0).trans rfl,(af cz.out 1).trans rfl,(af cz.out 2).trans rfl,(af cz.out 3).trans rfl,(af cz.out 4).trans rfl,(af cz.out 5).trans rfl,(af cz.out 6).trans rfl,(af cz.out 7).trans rfl,(af cz.out 8).trans rfl⟩ (fun hHeld=>?_);refine kB dB.LS dB.DU (fun dc q8=>?_)
    generalize rG.drew=xY at cz fU HB hHeld ⊢
    refine fN (i:=0) (N:=some 7) #[true,false,false,false,false,false,false,false,false,false,false,false,false,false,false,false,false,false,false,false,false,false,false,false,false,false,false,false,false,false,false,false,false,false,false,false,false] rfl rfl (eU dc.out q8.out aq) (fun _ _ _ h=>h) (Or.inl ⟨by rfl,pF⟩) hHeld cL ?_
    refine nL (i:=1) (N:=some 8) #[true,true,false,false,false,false,false,false,false,false,false,false,false,false,false,false,false,false,false,false,false,false,false,false,false,false,false,false,false,false,false,false,false,false,false,false,false] rfl rfl (jJ dc.out aq) bB (fun K hK=>?_)
    refine lg Tryz.func63 aq rfl #[.agg #[.int .i64 bf,.bool false,.slice dR cH.length dS,.string bE,.string bK,.bool bU,.slice cU bN.length cT,.slice dU cM.length dV,.int .i64 bX]] (by rfl) rfl rfl dI ?_
    with_reducible refine (cY.calls bf false _ _ cH bE bK bU _ _ bN _ _ cM bX false _ ?bk ?bM ?cQ ?fk ?gf ?gh A4.out).mono ?_
    (case bk=>repeat (exact (Kd.bD mI.out HB.out)))
    (case bM=>exact mJ.out)
    (case cQ=>repeat (exact (Kd.bD lH.out HB.out)))
    (case fk=>exact mA.out)
    (case gf=>repeat (exact (Kd.bD vW.out HB.out)))
    (case gh=>exact vX.out)
    rintro e w25 ⟨rfl,hb⟩
    refine ⟨_,rfl,?_⟩
    have jT:=ah.mk (az sJ hb)
    have jU:=ah.mk (az (g:=iZ) (o:= .cells #[.int .i64 iL,.bool jh,.slice n7 kM.length n9,.string iU,.string iM,.bool iN,.slice lO iI.length lQ,.slice oa lD.length oc,.int .i64 jA] 34 (0,0)) (by exact fU.out) hb)
    have mO:=ah.mk (ay aJ hb)
    clear cz
    clear fU
    clear HB
    have cz:=jT
    have fU:=jU
    have HB:=mO
    clear jT jU mO
    refine hK.out _ _ ⟨(af cz.out 0).trans rfl,(af cz.out 1).trans rfl,(af cz.out 2).trans rfl,(af cz.out 3).trans rfl,(af cz.out 4).trans rfl,(af cz.out 5).trans rfl,(af cz.out 6).trans rfl,(af cz.out 7).trans rfl,(af cz.out 8).trans rfl⟩ (fun hHeld=>?_)
    clear hK K
    refine jW (a':=?_) ?_ ?_
    rotate_left
    ·show Act.put _ (some 8) _=_
     simp only [Act.put,List.setIfInBounds_toArray,List.set_cons_zero,List.set_cons_succ,aU,aV]
     rfl
    refine aN (i:=2) (N:=some 9) #[true,true,true,false,false,false,false,false,false,false,false,false,false,false,false,false,false,false,false,false,false,false,false,false,false,false,false,false,false,false,false,false,false,false,false,false,false] rfl rfl (bg dc.out aq) (fun _ _ _ h=>h) (Or.inl ⟨by rfl,cD⟩) cL ?_
    refine aN (i:=3) (N:=some 10) #[true,true,true,true,false,false,false,false,false,false,false,false,false,false,false,false,false,false,false,false,false,false,false,false,false,false,false,false,false,false,false,false,false,false,false,false,false] rfl rfl (bg dc.out aq) (fun _ _ _ h=>h) (Or.inl ⟨by rfl,cD⟩) cL ?_
    refine aN (i:=4) (N:=some 11) #[true,true,true,true,true,false,false,false,false,false,false,false,false,false,false,false,false,false,false,false,false,false,false,false,false,false,false,false,false,false,false,false,false,false,false,false,false] rfl rfl (bg dc.out aq) (fun _ _ _ h=>h) (Or.inl ⟨by rfl,cD⟩) cL ?_
    refine aN (i:=6) (N:=some 13) #[true,true,true,true,true,false,true,false,false,false,false,false,false,false,false,false,false,false,false,false,false,false,false,false,false,false,false,false,false,false,false,false,false,false,false,false,false] rfl rfl (bg dc.out aq) (fun _ _ _ h=>h) (Or.inl ⟨by rfl,cD⟩) cL ?_
    refine fN (i:=5) (N:=some 12) #[true,true,true,true,true,true,true,false,false,false,false,false,false,false,false,false,false,false,false,false,false,false,false,false,false,false,false,false,false,false,false,false,false,false,false,false,false] rfl rfl (eU dc.out q8.out aq) (fun _ _ _ h=>h) (Or.inl ⟨by rfl,pF⟩) hHeld cL ?_
    refine aN (i:=7) (N:=some 14) #[true,true,true,true,true,true,true,true,false,false,false,false,false,false,false,false,false,false,false,false,false,false,false,false,false,false,false,false,false,false,false,false,false,false,false,false,false] rfl rfl (bg dc.out aq) (fun _ _ _ h=>h) (Or.inl ⟨by rfl,cD⟩) cL ?_
    refine aN (i:=8) (N:=some 15) #[true,true,true,true,true,true,true,true,true,false,false,false,false,false,false,false,false,false,false,false,false,false,false,false,false,false,false,false,false,false,false,false,false,false,false,false,false] rfl rfl (bg dc.out aq) (fun _ _ _ h=>h) (Or.inl ⟨by rfl,cD⟩) cL ?_
    refine aN (i:=9) (N:=some 16) #[true,true,true,true,true,true,true,true,true,true,false,false,false,false,false,false,false,false,false,false,false,false,false,false,false,false,false,false,false,false,false,false,false,false,false,false,false] rfl rfl (bg dc.out aq) (fun _ _ _ h=>h) (Or.inl ⟨by rfl,cD⟩) cL ?_
    refine aN (i:=10) (N:=some 17) #[true,true,true,true,true,true,true,true,true,true,true,false,false,false,false,false,false,false,false,false,false,false,false,false,false,false,false,false,false,false,false,false,false,false,false,false,false] rfl rfl (bg dc.out aq) (fun _ _ _ h=>h) (Or.inl ⟨by rfl,cD⟩) cL ?_
    refine aN (i:=11) (N:=some 18) #[true,true,true,true,true,true,true,true,true,true,true,true,false,false,false,false,false,false,false,false,false,false,false,false,false,false,false,false,false,false,false,false,false,false,false,false,false] rfl rfl (bg dc.out aq) (fun _ _ _ h=>h) (Or.inl ⟨by rfl,cD⟩) cL ?_
    refine fN (i:=12) (N:=some 19) #[true,true,true,true,true,true,true,true,true,true,true,true,true,false,false,false,false,false,false,false,false,false,false,false,false,false,false,false,false,false,false,false,false,false,false,false,false] rfl rfl (eU dc.out q8.out aq) (fun _ _ _ h=>h) (Or.inl ⟨by rfl,pF⟩) hHeld cL ?_
    refine aN (i:=13) (N:=some 20) #[true,true,true,true,true,true,true,true,true,true,true,true,true,true,false,false,false,false,false,false,false,false,false,false,false,false,false,false,false,false,false,false,false,false,false,false,false] rfl rfl (bg dc.out aq) (fun _ _ _ h=>h) (Or.inl ⟨by rfl,cD⟩) cL ?_
    refine aN (i:=14) (N:=some 21) #[true,true,true,true,true,true,true,true,true,true,true,true,true,true,true,false,false,false,false,false,false,false,false,false,false,false,false,false,false,false,false,false,false,false,false,false,false] rfl rfl (bg dc.out aq) (fun _ _ _ h=>h) (Or.inl ⟨by rfl,cD⟩) cL ?_
    refine aN (i:=15) (N:=some 22) (v:=undef) (a':=?_) #[true,true,true,true,true,true,true,true,true,true,true,true,true,true,true,true,false,false,false,false,false,false,false,false,false,false,false,false,false,false,false,false,false,false,false,false,false] rfl rfl (bg dc.out aq) (fun _ _ _ h=>h) (Or.inr ⟨by rfl,rfl⟩) ?_ ?_
    rotate_left
    ·simp only [Act.put,List.setIfInBounds_toArray,List.set_cons_zero,List.set_cons_succ,aU,aV]
     rfl
    refine aN (i:=16) (N:=some 23) (v:=undef) (a':=?_) #[true,true,true,true,true,true,true,true,true,true,true,true,true,true,true,true,true,false,false,false,false,false,false,false,false,false,false,false,false,false,false,false,false,false,false,false,false] rfl rfl (bg dc.out aq) (fun _ _ _ h=>h) (Or.inr ⟨by rfl,rfl⟩) ?_ ?_
    rotate_left
    ·simp only [Act.put,List.setIfInBounds_toArray,List.set_cons_zero,List.set_cons_succ,aU,aV]
     rfl
    refine aN (i:=17) (N:=some 24) (v:=undef) (a':=?_) #[true,true,true,true,true,true,true,true,true,true,true,true,true,true,true,true,true,true,false,false,false,false,false,false,false,false,false,false,false,false,false,false,false,false,false,false,false] rfl rfl (bg dc.out aq) (fun _ _ _ h=>h) (Or.inr ⟨by rfl,rfl⟩) ?_ ?_
    rotate_left
    ·simp only [Act.put,List.setIfInBounds_toArray,List.set_cons_zero,List.set_cons_succ,aU,aV]
     rfl
    refine aN (i:=18) (N:=some 25) (v:=undef) (a':=?_) #[true,true,true,true,true,true,true,true,true,true,true,true,true,true,true,true,true,true,true,false,false,false,false,false,false,false,false,false,false,false,false,false,false,false,false,false,false] rfl rfl (bg dc.out aq) (fun _ _ _ h=>h) (Or.inr ⟨by rfl,rfl⟩) ?_ ?_
    rotate_left
    ·simp only [Act.put,List.setIfInBounds_toArray,List.set_cons_zero,List.set_cons_succ,aU,aV]
     rfl
    refine aN (i:=19) (N:=some 26) #[true,true,true,true,true,true,true,true,true,true,true,true,true,true,true,true,true,true,true,true,false,false,false,false,false,false,false,false,false,false,false,false,false,false,false,false,false] rfl rfl (bg dc.out aq) (fun _ _ _ h=>h) (Or.inl ⟨by rfl,cD⟩) cL ?_
    refine aN (i:=20) (N:=some 27) #[true,true,true,true,true,true,true,true,true,true,true,true,true,true,true,true,true,true,true,true,true,false,false,false,false,false,false,false,false,false,false,false,false,false,false,false,false] rfl rfl (bg dc.out aq) (fun _ _ _ h=>h) (Or.inl ⟨by rfl,cD⟩) cL ?_
    refine aN (i:=21) (N:=some 28) (v:=undef) (a':=?_) #[true,true,true,true,true,true,true,true,true,true,true,true,true,true,true,true,true,true,true,true,true,true,false,false,false,false,false,false,false,false,false,false,false,false,false,false,false] rfl rfl (bg dc.out aq) (fun _ _ _ h=>h) (Or.inr ⟨by rfl,rfl⟩) ?_ ?_
    rotate_left
    ·simp only [Act.put,List.setIfInBounds_toArray,List.set_cons_zero,List.set_cons_succ,aU,aV]
     rfl
    refine aN (i:=22) (N:=some 29) (v:=undef) (a':=?_) #[true,true,true,true,true,true,true,true,true,true,true,true,true,true,true,true,true,true,true,true,true,true,true,false,false,false,false,false,false,false,false,false,false,false,false,false,false] rfl rfl (bg dc.out aq) (fun _ _ _ h=>h) (Or.inr ⟨by rfl,rfl⟩) ?_ ?_
    rotate_left
    ·simp only [Act.put,List.setIfInBounds_toArray,List.set_cons_zero,List.set_cons_succ,aU,aV]
     rfl
    refine aN (i:=23) (N:=some 30) (v:=undef) (a':=?_) #[true,true,true,true,true,true,true,true,true,true,true,true,true,true,true,true,true,true,true,true,true,true,true,true,false,false,false,false,false,false,false,false,false,false,false,false,false] rfl rfl (bg dc.out aq) (fun _ _ _ h=>h) (Or.inr ⟨by rfl,rfl⟩) ?_ ?_
    rotate_left
    ·simp only [Act.put,List.setIfInBounds_toArray,List.set_cons_zero,List.set_cons_succ,aU,aV]
     rfl
    refine aN (i:=24) (N:=some 31) (v:=undef) (a':=?_) #[true,true,true,true,true,true,true,true,true,true,true,true,true,true,true,true,true,true,true,true,true,true,true,true,true,false,false,false,false,false,false,false,false,false,false,false,false] rfl rfl (bg dc.out aq) (fun _ _ _ h=>h) (Or.inr ⟨by rfl,rfl⟩) ?_ ?_
    rotate_left
    ·simp only [Act.put,List.setIfInBounds_toArray,List.set_cons_zero,List.set_cons_succ,aU,aV]
     rfl
    refine aN (i:=25) (N:=some 32) (v:=undef) (a':=?_) #[true,true,true,true,true,true,true,true,true,true,true,true,true,true,true,true,true,true,true,true,true,true,true,true,true,true,false,false,false,false,false,false,false,false,false,false,false] rfl rfl (bg dc.out aq) (fun _ _ _ h=>h) (Or.inr ⟨by rfl,rfl⟩) ?_ ?_
    rotate_left
    ·simp only [Act.put,List.setIfInBounds_toArray,List.set_cons_zero,List.set_cons_succ,aU,aV]
     rfl
    refine aN (i:=26) (N:=some 33) (v:=undef) (a':=?_) #[true,true,true,true,true,true,true,true,true,true,true,true,true,true,true,true,true,true,true,true,true,true,true,true,true,true,true,false,false,false,false,false,false,false,false,false,false] rfl rfl (bg dc.out aq) (fun _ _ _ h=>h) (Or.inr ⟨by rfl,rfl⟩) ?_ ?_
    rotate_left
    ·simp only [Act.put,List.setIfInBounds_toArray,List.set_cons_zero,List.set_cons_succ,aU,aV]
     rfl
    refine aN (i:=27) (N:=some 34) (v:=undef) (a':=?_) #[true,true,true,true,true,true,true,true,true,true,true,true,true,true,true,true,true,true,true,true,true,true,true,true,true,true,true,true,false,false,false,false,false,false,false,false,false] rfl rfl (bg dc.out aq) (fun _ _ _ h=>h) (Or.inr ⟨by rfl,rfl⟩) ?_ ?_
    rotate_left
    ·simp only [Act.put,List.setIfInBounds_toArray,List.set_cons_zero,List.set_cons_succ,aU,aV]
     rfl
    refine aN (i:=28) (N:=some 35) (v:=undef) (a':=?_) #[true,true,true,true,true,true,true,true,true,true,true,true,true,true,true,true,true,true,true,true,true,true,true,true,true,true,true,true,true,false,false,false,false,false,false,false,false] rfl rfl (bg dc.out aq) (fun _ _ _ h=>h) (Or.inr ⟨by rfl,rfl⟩) ?_ ?_
    rotate_left
    ·simp only [Act.put,List.setIfInBounds_toArray,List.set_cons_zero,List.set_cons_succ,aU,aV]
     rfl
    refine aN (i:=29) (N:=some 36) (v:=undef) (a':=?_) #[true,true,true,true,true,true,true,true,true,true,true,true,true,true,true,true,true,true,true,true,true,true,true,true,true,true,true,true,true,true,false,false,false,false,false,false,false] rfl rfl (bg dc.out aq) (fun _ _ _ h=>h) (Or.inr ⟨by rfl,rfl⟩) ?_ ?_
    rotate_left
    ·simp only [Act.put,List.setIfInBounds_toArray,List.set_cons_zero,List.set_cons_succ,aU,aV]
     rfl
    refine aN (i:=30) (N:=some 37) (v:=undef) (a':=?_) #[true,true,true,true,true,true,true,true,true,true,true,true,true,true,true,true,true,true,true,true,true,true,true,true,true,true,true,true,true,true,true,false,false,false,false,false,false] rfl rfl (bg dc.out aq) (fun _ _ _ h=>h) (Or.inr ⟨by rfl,rfl⟩) ?_ ?_
    rotate_left
    ·simp only [Act.put,List.setIfInBounds_toArray,List.set_cons_zero,List.set_cons_succ,aU,aV]
     rfl
    refine aN (i:=31) (N:=some 38) (v:=undef) (a':=?_) #[true,true,true,true,true,true,true,true,true,true,true,true,true,true,true,true,true,true,true,true,true,true,true,true,true,true,true,true,true,true,true,true,false,false,false,false,false] rfl rfl (bg dc.out aq) (fun _ _ _ h=>h) (Or.inr ⟨by rfl,rfl⟩) ?_ ?_
    rotate_left
    ·simp only [Act.put,List.setIfInBounds_toArray,List.set_cons_zero,List.set_cons_succ,aU,aV]
     rfl
    refine aN (i:=32) (N:=some 39) (v:=undef) (a':=?_) #[true,true,true,true,true,true,true,true,true,true,true,true,true,true,true,true,true,true,true,true,true,true,true,true,true,true,true,true,true,true,true,true,true,false,false,false,false] rfl rfl (bg dc.out aq) (fun _ _ _ h=>h) (Or.inr ⟨by rfl,rfl⟩) ?_ ?_
    rotate_left
    ·simp only [Act.put,List.setIfInBounds_toArray,List.set_cons_zero,List.set_cons_succ,aU,aV]
     rfl
    refine aN (i:=33) (N:=some 40) (v:=undef) (a':=?_) #[true,true,true,true,true,true,true,true,true,true,true,true,true,true,true,true,true,true,true,true,true,true,true,true,true,true,true,true,true,true,true,true,true,true,false,false,false] rfl rfl (bg dc.out aq) (fun _ _ _ h=>h) (Or.inr ⟨by rfl,rfl⟩) ?_ ?_
    rotate_left
    ·simp only [Act.put,List.setIfInBounds_toArray,List.set_cons_zero,List.set_cons_succ,aU,aV]
     rfl
    refine aN (i:=34) (N:=some 41) (v:=undef) (a':=?_) #[true,true,true,true,true,true,true,true,true,true,true,true,true,true,true,true,true,true,true,true,true,true,true,true,true,true,true,true,true,true,true,true,true,true,true,false,false] rfl rfl (bg dc.out aq) (fun _ _ _ h=>h) (Or.inr ⟨by rfl,rfl⟩) ?_ ?_
    rotate_left
    ·simp only [Act.put,List.setIfInBounds_toArray,List.set_cons_zero,List.set_cons_succ,aU,aV]
     rfl
    refine aN (i:=35) (N:=some 42) #[true,true,true,true,true,true,true,true,true,true,true,true,true,true,true,true,true,true,true,true,true,true,true,true,true,true,true,true,true,true,true,true,true,true,true,true,false] rfl rfl (bg dc.out aq) (fun _ _ _ h=>h) (Or.inl ⟨by rfl,cD⟩) cL ?_
    refine aN (i:=36) (N:=some 6) #[true,true,true,true,true,true,true,true,true,true,true,true,true,true,true,true,true,true,true,true,true,true,true,true,true,true,true,true,true,true,true,true,true,true,true,true,true] rfl rfl (bg dc.out aq) (fun _ _ _ h=>h) (Or.inl ⟨by rfl,cD⟩) cL ?_
    refine nk (nD dc.out aq) ?_
    try go_wp2
    go_ret
    exact ⟨by rfl,aJ⟩
  ·rw [if_neg c10] at H
   have E6:decide (a2≤bf)=false:=decide_eq_false c10
   clear c10
   obtain rfl:=Option.some.inj H
   go_enter Tryz.func106,Tryz.ntmps106
   try go_wp2_with (first|((with_reducible refine bq (N:=3) rfl ?_);(try (refine bV (by rfl) ?_;dsimp only));refine br ?hg (N:=3) ?hd (cs:=#[.int .i64 bf,.bool bP,.slice dR cH.length dS,.string bE,.string bK,.bool bU,.slice cU bN.length cT,.slice dU cM.length dV,.int .i64 bX]) (t:=34) ?hr ?_;(case hd=>rfl);(case hg=>rfl);(case hr=>(go_simp;done));intro fo hg K1 bJ hb;have cz:=ah.mk (bJ);have OT:=ah.mk ((bI:w.heap.size≤fo));have OU:=ah.mk ((bI:w.heap.size≤fo));replace HB:=ah.mk (ay aJ hb);clear hb bJ hg)|((with_reducible refine bq (N:=4) rfl ?_);(try (refine bV (by rfl) ?_;dsimp only));refine br ?hg (N:=4) ?hd (cs:=#[.int .i64 iL,.bool jh,.slice n7 kM.length n9,.string iU,.string iM,.bool iN,.slice lO iI.length lQ,.slice oa lD.length oc,.int .i64 jA]) (t:=34) ?hr ?_;(case hd=>rfl);(case hg=>rfl);(case hr=>(go_simp;done));intro iZ hg QD bJ hb;have fU:=ah.mk (bJ);have OV:=ah.mk ((bI:w.heap.size≤iZ));have OW:=ah.mk ((bI:w.heap.size≤iZ));replace HB:=ah.mk (ay aJ hb);have wY:=ah.mk ((Dc:fo≠iZ));have wZ:=ah.mk ((Dd:iZ≠fo));replace cz:=ah.mk (az sJ hb);clear hb bJ hg))
   have jT:=ah.mk (iw cz.out)
   have jU:=ah.mk (iw fU.out)
   have mO:=ah.mk (fW HB.out)
   clear cz
   clear fU
   clear HB
   have cz:=jT
   have fU:=jU
   have HB:=mO
   clear jT jU mO
   refine kK (n:=37) (S:=fun w'=>w'.cell? ⟨fo,0,none⟩=some (.int .i64 bf)∧w'.cell? ⟨fo,1,none⟩=some (.bool bP)∧w'.cell? ⟨fo,2,none⟩=some (.slice dR cH.length dS)∧w'.cell? ⟨fo,3,none⟩=some (.string bE)∧w'.cell? ⟨fo,4,none⟩=some (.string bK)∧w'.cell? ⟨fo,5,none⟩=some (.bool bU)∧w'.cell? ⟨fo,6,none⟩=some (.slice cU bN.length cT)∧w'.cell? ⟨fo,7,none⟩=some (.slice dU cM.length dV)∧w'.cell? ⟨fo,8,none⟩=some (.int .i64 bX)) (ds:=[]) #[false,false,false,false,false,false,false,false,false,false,false,false,false,false,false,false,false,false,false,false,false,false,false,false,false,false,false,false,false,false,false,false,false,false,false,false,false] aq (by rfl) (by rfl) ⟨(af cz.out 0).trans rfl,(af cz.out 1).trans rfl,(af cz.out 2).trans rfl,(af cz.out 3).trans rfl,(af cz.out 4).trans rfl,(af cz.out 5).trans rfl,(af cz.out 6).trans rfl,(af cz.out 7).trans rfl,(af cz.out 8).trans rfl⟩ (fun hHeld=>?_);refine kB dB.LS dB.DU (fun dc q8=>?_)
   generalize QD.drew=Ak at cz fU HB hHeld ⊢
   refine fN (i:=0) (N:=some 7) #[true,false,false,false,false,false,false,false,false,false,false,false,false,false,false,false,false,false,false,false,false,false,false,false,false,false,false,false,false,false,false,false,false,false,false,false,false] rfl rfl (eU dc.out q8.out aq) (fun _ _ _ h=>h) (Or.inl ⟨by rfl,pF⟩) hHeld cL ?_
   refine nL (i:=1) (N:=some 8) #[true,true,false,false,false,false,false,false,false,false,false,false,false,false,false,false,false,false,false,false,false,false,false,false,false,false,false,false,false,false,false,false,false,false,false,false,false] rfl rfl (jJ dc.out aq) bB (fun K hK=>?_)
   refine lg Tryz.func63 aq rfl #[.agg #[.int .i64 bf,.bool bP,.slice dR cH.length dS,.string bE,.string bK,.bool bU,.slice cU bN.length cT,.slice dU cM.length dV,.int .i64 bX]] (by rfl) rfl rfl dI ?_
   with_reducible refine (cY.calls bf bP _ _ cH bE bK bU _ _ bN _ _ cM bX false _ ?bk ?bM ?cQ ?fk ?gf ?gh A4.out).mono ?_
   (case bk=>repeat (exact (Kd.bD mI.out HB.out)))
   (case bM=>exact mJ.out)
   (case cQ=>repeat (exact (Kd.bD lH.out HB.out)))
   (case fk=>exact mA.out)
   (case gf=>repeat (exact (Kd.bD vW.out HB.out)))
   (case gh=>exact vX.out)
   rintro e w29 ⟨rfl,hb⟩
   refine ⟨_,rfl,?_⟩
   have jT:=ah.mk (az sJ hb)
   have jU:=ah.mk (az (g:=iZ) (o:= .cells #[.int .i64 iL,.bool jh,.slice n7 kM.length n9,.string iU,.string iM,.bool iN,.slice lO iI.length lQ,.slice oa lD.length oc,.int .i64 jA] 34 (0,0)) (by exact fU.out) hb)
   have mO:=ah.mk (ay aJ hb)
   clear cz
   clear fU
   clear HB
   have cz:=jT
   have fU:=jU
   have HB:=mO
   clear jT jU mO
   refine hK.out _ _ ⟨(af cz.out 0).trans rfl,(af cz.out 1).trans rfl,(af cz.out 2).trans rfl,(af cz.out 3).trans rfl,(af cz.out 4).trans rfl,(af cz.out 5).trans rfl,(af cz.out 6).trans rfl,(af cz.out 7).trans rfl,(af cz.out 8).trans rfl⟩ (fun hHeld=>?_)
   clear hK K
   refine jW (a':=?_) ?_ ?_
   rotate_left
   ·show Act.put _ (some 8) _=_
    simp only [Act.put,List.setIfInBounds_toArray,List.set_cons_zero,List.set_cons_succ,aU,aV]
    rfl
   refine aN (i:=2) (N:=some 9) #[true,true,true,false,false,false,false,false,false,false,false,false,false,false,false,false,false,false,false,false,false,false,false,false,false,false,false,false,false,false,false,false,false,false,false,false,false] rfl rfl (bg dc.out aq) (fun _ _ _ h=>h) (Or.inl ⟨by rfl,cD⟩) cL ?_
   refine aN (i:=3) (N:=some 10) #[true,true,true,true,false,false,false,false,false,false,false,false,false,false,false,false,false,false,false,false,false,false,false,false,false,false,false,false,false,false,false,false,false,false,false,false,false] rfl rfl (bg dc.out aq) (fun _ _ _ h=>h) (Or.inl ⟨by rfl,cD⟩) cL ?_
   refine aN (i:=4) (N:=some 11) #[true,true,true,true,true,false,false,false,false,false,false,false,false,false,false,false,false,false,false,false,false,false,false,false,false,false,false,false,false,false,false,false,false,false,false,false,false] rfl rfl (bg dc.out aq) (fun _ _ _ h=>h) (Or.inl ⟨by rfl,cD⟩) cL ?_
   refine aN (i:=6) (N:=some 13) #[true,true,true,true,true,false,true,false,false,false,false,false,false,false,false,false,false,false,false,false,false,false,false,false,false,false,false,false,false,false,false,false,false,false,false,false,false] rfl rfl (bg dc.out aq) (fun _ _ _ h=>h) (Or.inl ⟨by rfl,cD⟩) cL ?_
   refine fN (i:=5) (N:=some 12) #[true,true,true,true,true,true,true,false,false,false,false,false,false,false,false,false,false,false,false,false,false,false,false,false,false,false,false,false,false,false,false,false,false,false,false,false,false] rfl rfl (eU dc.out q8.out aq) (fun _ _ _ h=>h) (Or.inl ⟨by rfl,pF⟩) hHeld cL ?_
   refine aN (i:=7) (N:=some 14) #[true,true,true,true,true,true,true,true,false,false,false,false,false,false,false,false,false,false,false,false,false,false,false,false,false,false,false,false,false,false,false,false,false,false,false,false,false] rfl rfl (bg dc.out aq) (fun _ _ _ h=>h) (Or.inl ⟨by rfl,cD⟩) cL ?_
   refine aN (i:=8) (N:=some 15) #[true,true,true,true,true,true,true,true,true,false,false,false,false,false,false,false,false,false,false,false,false,false,false,false,false,false,false,false,false,false,false,false,false,false,false,false,false] rfl rfl (bg dc.out aq) (fun _ _ _ h=>h) (Or.inl ⟨by rfl,cD⟩) cL ?_
   refine aN (i:=9) (N:=some 16) #[true,true,true,true,true,true,true,true,true,true,false,false,false,false,false,false,false,false,false,false,false,false,false,false,false,false,false,false,false,false,false,false,false,false,false,false,false] rfl rfl (bg dc.out aq) (fun _ _ _ h=>h) (Or.inl ⟨by rfl,cD⟩) cL ?_
   refine aN (i:=10) (N:=some 17) (v:=undef) (a':=?_) #[true,true,true,true,true,true,true,true,true,true,true,false,false,false,false,false,false,false,false,false,false,false,false,false,false,false,false,false,false,false,false,false,false,false,false,false,false] rfl rfl (bg dc.out aq) (fun _ _ _ h=>h) (Or.inr ⟨by rfl,rfl⟩) ?_ ?_
   rotate_left
   ·simp only [Act.put,List.setIfInBounds_toArray,List.set_cons_zero,List.set_cons_succ,aU,aV]
    rfl
   refine aN (i:=11) (N:=some 18) (v:=undef) (a':=?_) #[true,true,true,true,true,true,true,true,true,true,true,true,false,false,false,false,false,false,false,false,false,false,false,false,false,false,false,false,false,false,false,false,false,false,false,false,false] rfl rfl (bg dc.out aq) (fun _ _ _ h=>h) (Or.inr ⟨by rfl,rfl⟩) ?_ ?_
   rotate_left
   ·simp only [Act.put,List.setIfInBounds_toArray,List.set_cons_zero,List.set_cons_succ,aU,aV]
    rfl
   refine aN (i:=12) (N:=some 19) (v:=undef) (a':=?_) #[true,true,true,true,true,true,true,true,true,true,true,true,true,false,false,false,false,false,false,false,false,false,false,false,false,false,false,false,false,false,false,false,false,false,false,false,false] rfl rfl (bg dc.out aq) (fun _ _ _ h=>h) (Or.inr ⟨by rfl,rfl⟩) ?_ ?_
   rotate_left
   ·simp only [Act.put,List.setIfInBounds_toArray,List.set_cons_zero,List.set_cons_succ,aU,aV]
    rfl
   refine aN (i:=13) (N:=some 20) #[true,true,true,true,true,true,true,true,true,true,true,true,true,true,false,false,false,false,false,false,false,false,false,false,false,false,false,false,false,false,false,false,false,false,false,false,false] rfl rfl (bg dc.out aq) (fun _ _ _ h=>h) (Or.inl ⟨by rfl,cD⟩) cL ?_
   refine aN (i:=14) (N:=some 21) #[true,true,true,true,true,true,true,true,true,true,true,true,true,true,true,false,false,false,false,false,false,false,false,false,false,false,false,false,false,false,false,false,false,false,false,false,false] rfl rfl (bg dc.out aq) (fun _ _ _ h=>h) (Or.inl ⟨by rfl,cD⟩) cL ?_
   refine aN (i:=15) (N:=some 22) (v:=undef) (a':=?_) #[true,true,true,true,true,true,true,true,true,true,true,true,true,true,true,true,false,false,false,false,false,false,false,false,false,false,false,false,false,false,false,false,false,false,false,false,false] rfl rfl (bg dc.out aq) (fun _ _ _ h=>h) (Or.inr ⟨by rfl,rfl⟩) ?_ ?_
   rotate_left
   ·simp only [Act.put,List.setIfInBounds_toArray,List.set_cons_zero,List.set_cons_succ,aU,aV]
    rfl
   refine aN (i:=16) (N:=some 23) (v:=undef) (a':=?_) #[true,true,true,true,true,true,true,true,true,true,true,true,true,true,true,true,true,false,false,false,false,false,false,false,false,false,false,false,false,false,false,false,false,false,false,false,false] rfl rfl (bg dc.out aq) (fun _ _ _ h=>h) (Or.inr ⟨by rfl,rfl⟩) ?_ ?_
   rotate_left
   ·simp only [Act.put,List.setIfInBounds_toArray,List.set_cons_zero,List.set_cons_succ,aU,aV]
    rfl
   refine aN (i:=17) (N:=some 24) (v:=undef) (a':=?_) #[true,true,true,true,true,true,true,true,true,true,true,true,true,true,true,true,true,true,false,false,false,false,false,false,false,false,false,false,false,false,false,false,false,false,false,false,false] rfl rfl (bg dc.out aq) (fun _ _ _ h=>h) (Or.inr ⟨by rfl,rfl⟩) ?_ ?_
   rotate_left
   ·simp only [Act.put,List.setIfInBounds_toArray,List.set_cons_zero,List.set_cons_succ,aU,aV]
    rfl
   refine aN (i:=18) (N:=some 25) (v:=undef) (a':=?_) #[true,true,true,true,true,true,true,true,true,true,true,true,true,true,true,true,true,true,true,false,false,false,false,false,false,false,false,false,false,false,false,false,false,false,false,false,false] rfl rfl (bg dc.out aq) (fun _ _ _ h=>h) (Or.inr ⟨by rfl,rfl⟩) ?_ ?_
   rotate_left
   ·simp only [Act.put,List.setIfInBounds_toArray,List.set_cons_zero,List.set_cons_succ,aU,aV]
    rfl
   refine aN (i:=19) (N:=some 26) #[true,true,true,true,true,true,true,true,true,true,true,true,true,true,true,true,true,true,true,true,false,false,false,false,false,false,false,false,false,false,false,false,false,false,false,false,false] rfl rfl (bg dc.out aq) (fun _ _ _ h=>h) (Or.inl ⟨by rfl,cD⟩) cL ?_
   refine aN (i:=20) (N:=some 27) #[true,true,true,true,true,true,true,true,true,true,true,true,true,true,true,true,true,true,true,true,true,false,false,false,false,false,false,false,false,false,false,false,false,false,false,false,false] rfl rfl (bg dc.out aq) (fun _ _ _ h=>h) (Or.inl ⟨by rfl,cD⟩) cL ?_
   refine aN (i:=21) (N:=some 28) (v:=undef) (a':=?_) #[true,true,true,true,true,true,true,true,true,true,true,true,true,true,true,true,true,true,true,true,true,true,false,false,false,false,false,false,false,false,false,false,false,false,false,false,false] rfl rfl (bg dc.out aq) (fun _ _ _ h=>h) (Or.inr ⟨by rfl,rfl⟩) ?_ ?_
   rotate_left
   ·simp only [Act.put,List.setIfInBounds_toArray,List.set_cons_zero,List.set_cons_succ,aU,aV]
    rfl
   refine aN (i:=22) (N:=some 29) (v:=undef) (a':=?_) #[true,true,true,true,true,true,true,true,true,true,true,true,true,true,true,true,true,true,true,true,true,true,true,false,false,false,false,false,false,false,false,false,false,false,false,false,false] rfl rfl (bg dc.out aq) (fun _ _ _ h=>h) (Or.inr ⟨by rfl,rfl⟩) ?_ ?_
   rotate_left
   ·simp only [Act.put,List.setIfInBounds_toArray,List.set_cons_zero,List.set_cons_succ,aU,aV]
    rfl
   refine aN (i:=23) (N:=some 30) (v:=undef) (a':=?_) #[true,true,true,true,true,true,true,true,true,true,true,true,true,true,true,true,true,true,true,true,true,true,true,true,false,false,false,false,false,false,false,false,false,false,false,false,false] rfl rfl (bg dc.out aq) (fun _ _ _ h=>h) (Or.inr ⟨by rfl,rfl⟩) ?_ ?_
   rotate_left
   ·simp only [Act.put,List.setIfInBounds_toArray,List.set_cons_zero,List.set_cons_succ,aU,aV]
    rfl
   refine aN (i:=24) (N:=some 31) (v:=undef) (a':=?_) #[true,true,true,true,true,true,true,true,true,true,true,true,true,true,true,true,true,true,true,true,true,true,true,true,true,false,false,false,false,false,false,false,false,false,false,false,false] rfl rfl (bg dc.out aq) (fun _ _ _ h=>h) (Or.inr ⟨by rfl,rfl⟩) ?_ ?_
   rotate_left
   ·simp only [Act.put,List.setIfInBounds_toArray,List.set_cons_zero,List.set_cons_succ,aU,aV]
    rfl
   refine aN (i:=25) (N:=some 32) (v:=undef) (a':=?_) #[true,true,true,true,true,true,true,true,true,true,true,true,true,true,true,true,true,true,true,true,true,true,true,true,true,true,false,false,false,false,false,false,false,false,false,false,false] rfl rfl (bg dc.out aq) (fun _ _ _ h=>h) (Or.inr ⟨by rfl,rfl⟩) ?_ ?_
   rotate_left
   ·simp only [Act.put,List.setIfInBounds_toArray,List.set_cons_zero,List.set_cons_succ,aU,aV]
    rfl
   refine aN (i:=26) (N:=some 33) (v:=undef) (a':=?_) #[true,true,true,true,true,true,true,true,true,true,true,true,true,true,true,true,true,true,true,true,true,true,true,true,true,true,true,false,false,false,false,false,false,false,false,false,false] rfl rfl (bg dc.out aq) (fun _ _ _ h=>h) (Or.inr ⟨by rfl,rfl⟩) ?_ ?_
   rotate_left
   ·simp only [Act.put,List.setIfInBounds_toArray,List.set_cons_zero,List.set_cons_succ,aU,aV]
    rfl
   refine aN (i:=27) (N:=some 34) (v:=undef) (a':=?_) #[true,true,true,true,true,true,true,true,true,true,true,true,true,true,true,true,true,true,true,true,true,true,true,true,true,true,true,true,false,false,false,false,false,false,false,false,false] rfl rfl (bg dc.out aq) (fun _ _ _ h=>h) (Or.inr ⟨by rfl,rfl⟩) ?_ ?_
   rotate_left
   ·simp only [Act.put,List.setIfInBounds_toArray,List.set_cons_zero,List.set_cons_succ,aU,aV]
    rfl
   refine aN (i:=28) (N:=some 35) (v:=undef) (a':=?_) #[true,true,true,true,true,true,true,true,true,true,true,true,true,true,true,true,true,true,true,true,true,true,true,true,true,true,true,true,true,false,false,false,false,false,false,false,false] rfl rfl (bg dc.out aq) (fun _ _ _ h=>h) (Or.inr ⟨by rfl,rfl⟩) ?_ ?_
   rotate_left
   ·simp only [Act.put,List.setIfInBounds_toArray,List.set_cons_zero,List.set_cons_succ,aU,aV]
    rfl
   refine aN (i:=29) (N:=some 36) (v:=undef) (a':=?_) #[true,true,true,true,true,true,true,true,true,true,true,true,true,true,true,true,true,true,true,true,true,true,true,true,true,true,true,true,true,true,false,false,false,false,false,false,false] rfl rfl (bg dc.out aq) (fun _ _ _ h=>h) (Or.inr ⟨by rfl,rfl⟩) ?_ ?_
   rotate_left
   ·simp only [Act.put,List.setIfInBounds_toArray,List.set_cons_zero,List.set_cons_succ,aU,aV]
    rfl
   refine aN (i:=30) (N:=some 37) (v:=undef) (a':=?_) #[true,true,true,true,true,true,true,true,true,true,true,true,true,true,true,true,true,true,true,true,true,true,true,true,true,true,true,true,true,true,true,false,false,false,false,false,false] rfl rfl (bg dc.out aq) (fun _ _ _ h=>h) (Or.inr ⟨by rfl,rfl⟩) ?_ ?_
   rotate_left
   ·simp only [Act.put,List.setIfInBounds_toArray,List.set_cons_zero,List.set_cons_succ,aU,aV]
    rfl
   refine aN (i:=31) (N:=some 38) (v:=undef) (a':=?_) #[true,true,true,true,true,true,true,true,true,true,true,true,true,true,true,true,true,true,true,true,true,true,true,true,true,true,true,true,true,true,true,true,false,false,false,false,false] rfl rfl (bg dc.out aq) (fun _ _ _ h=>h) (Or.inr ⟨by rfl,rfl⟩) ?_ ?_
   rotate_left
   ·simp only [Act.put,List.setIfInBounds_toArray,List.set_cons_zero,List.set_cons_succ,aU,aV]
    rfl
   refine aN (i:=32) (N:=some 39) (v:=undef) (a':=?_) #[true,true,true,true,true,true,true,true,true,true,true,true,true,true,true,true,true,true,true,true,true,true,true,true,true,true,true,true,true,true,true,true,true,false,false,false,false] rfl rfl (bg dc.out aq) (fun _ _ _ h=>h) (Or.inr ⟨by rfl,rfl⟩) ?_ ?_
   rotate_left
   ·simp only [Act.put,List.setIfInBounds_toArray,List.set_cons_zero,List.set_cons_succ,aU,aV]
    rfl
   refine aN (i:=33) (N:=some 40) (v:=undef) (a':=?_) #[true,true,true,true,true,true,true,true,true,true,true,true,true,true,true,true,true,true,true,true,true,true,true,true,true,true,true,true,true,true,true,true,true,true,false,false,false] rfl rfl (bg dc.out aq) (fun _ _ _ h=>h) (Or.inr ⟨by rfl,rfl⟩) ?_ ?_
   rotate_left
   ·simp only [Act.put,List.setIfInBounds_toArray,List.set_cons_zero,List.set_cons_succ,aU,aV]
    rfl
   refine aN (i:=34) (N:=some 41) (v:=undef) (a':=?_) #[true,true,true,true,true,true,true,true,true,true,true,true,true,true,true,true,true,true,true,true,true,true,true,true,true,true,true,true,true,true,true,true,true,true,true,false,false] rfl rfl (bg dc.out aq) (fun _ _ _ h=>h) (Or.inr ⟨by rfl,rfl⟩) ?_ ?_
   rotate_left
   ·simp only [Act.put,List.setIfInBounds_toArray,List.set_cons_zero,List.set_cons_succ,aU,aV]
    rfl
   refine aN (i:=35) (N:=some 42) #[true,true,true,true,true,true,true,true,true,true,true,true,true,true,true,true,true,true,true,true,true,true,true,true,true,true,true,true,true,true,true,true,true,true,true,true,false] rfl rfl (bg dc.out aq) (fun _ _ _ h=>h) (Or.inl ⟨by rfl,cD⟩) cL ?_
   refine aN (i:=36) (N:=some 6) #[true,true,true,true,true,true,true,true,true,true,true,true,true,true,true,true,true,true,true,true,true,true,true,true,true,true,true,true,true,true,true,true,true,true,true,true,true] rfl rfl (bg dc.out aq) (fun _ _ _ h=>h) (Or.inl ⟨by rfl,cD⟩) cL ?_
   refine nk (nD dc.out aq) ?_
   try go_wp2
   go_ret
   exact ⟨by rfl,aJ⟩
end Go.Proofs.YtbjjaaodfbjkfaaGreatDoor.mN
