import Derived.Test.YtbjjaaodfbjkfaaGreatDoorESlim
import Derived.Test.YtbjjaaodfbjkfaaGreatDoorEClone
set_option maxHeartbeats 8000000
set_option maxRecDepth 100000
namespace Go.Proofs.YtbjjaaodfbjkfaaGreatDoor.mN
open Go.RowKit Go.Proofs.YtbjjaaodfbjkfaaGreatDoor.xV Go.Proofs.ak.bQ Go.Proofs.ak.dA Go.Proofs.ak.cX
attribute [local go_sem] jc jd j4 j5 gU gV je jf
set_option linter.unusedVariables false
set_option linter.unusedSimpArgs false
def iz.f (bf:Int) (bP:Bool) (cH:List ByteArray) (bE:ByteArray) (bK:ByteArray) (bU:Bool) (bN:List (jz)) (cM:List Int) (bX:Int):Option (Int×Bool×List ByteArray×ByteArray×ByteArray×Bool×(List (jz))×List Int×Int):=(fC.f cH).bind fun t103=>((eA.f bN).bind fun t106=>((gp.f cM).bind fun t109=>(some (bf,bP,t103,bE,bK,bU,t106,t109,bX))))
def iz.T1:Bool×List (List Nat×List Nat):=(true,[([],[]),([0],[0]),([1],[1]),([2],[2]),([],[]),([4],[4]),([5,3],[5]),([],[]),([7],[7]),([8,6],[8]),([0,1,2,3,4,5,7,8],[]),([10,0,1,2,3,4,5,7,8],[10]),([11,3,9,0,1,2,3,4,5,7,8],[3,11]),([0,1,2,3,4,5,6,7,8,10,11,12],[]),([13,6,12,0,1,2,3,4,5,6,7,8,10,11,12],[6,13]),([0,1,2,3,4,5,6,7,8,9,10,11,12,13,14],[]),([15,9,14,0,1,2,3,4,5,6,7,8,9,10,11,12,13,14],[9,15])])
def iz.B1:List Nat:=[0,1,3,7,0,16,63,0,128,511,447,1471,4095,8191,16383,32767,65535]
theorem iz.LS:pW .any (opsOf Tryz.f72 1)=iz.T1:=by kernel_rfl
theorem iz.DU:pP iz.T1.2 iz.B1=true:=by kernel_rfl
theorem iz.calls (bf:Int) (bP:Bool) (dR:Option Addr) (dS:Nat) (cH:List ByteArray) (bE:ByteArray) (bK:ByteArray) (bU:Bool) (cU:Option Addr) (cT:Nat) (bN:List (jz)) (dU:Option Addr) (dV:Nat) (cM:List Int) (bX:Int) (r1:Int) (r2:Bool) (r3:List ByteArray) (r4:ByteArray) (r5:ByteArray) (r6:Bool) (r7:List (jz)) (r8:List Int) (r9:Int) (w:World) (qp:Kd.C Kd.string w dR cH.length cH) (qq:cH.length≤dS) (mH:Kd.C tq w cU bN.length bN) (mQ:bN.length≤cT) (qu:Kd.C (Kd.int .u8) w dU cM.length cM) (qw:cM.length≤dV) (h:iz.f bf bP cH bE bK bU bN cM bX=some (r1,r2,r3,r4,r5,r6,r7,r8,r9)):
 Calls Tryz.prog 72 #[.agg #[.int .i64 bf,.bool bP,.slice dR cH.length dS,.string bE,.string bK,.bool bU,.slice cU bN.length cT,.slice dU cM.length dV,.int .i64 bX]] w fun e w'=>∃ Yo QI v7_:Value,e= .returned (.agg #[.int .i64 r1,.bool r2,Yo,.string r4,.string r5,.bool r6,QI,v7_,.int .i64 r9])∧Kd.R Kd.string 9 w' w.heap.size (fun _ =>True) Yo r3∧Kd.R tq 37 w' w.heap.size (fun _ =>True) QI r7∧Kd.R (Kd.int .u8) 5 w' w.heap.size (fun _ =>True) v7_ r8∧Below w.heap.size w w':=by
 have BD:=Tryz.underlying34
 have mI:=ah.mk qp
 have mJ:=ah.mk qq
 clear qp qq
 have lH:=ah.mk mH
 have mA:=ah.mk mQ
 clear mH mQ
 have vW:=ah.mk qu
 have vX:=ah.mk qw
 clear qu qw
 have HB:=ah.mk (Below.refl w.heap.size w)
 have H:((fC.f cH).bind fun t103=>((eA.f bN).bind fun t106=>((gp.f cM).bind fun t109=>(some (bf,bP,t103,bE,bK,bU,t106,t109,bX)))))=some (r1,r2,r3,r4,r5,r6,r7,r8,r9):=h
 clear h
 obtain ⟨t103,A2,H⟩:=bd_ H
 obtain ⟨t106,A3,H⟩:=bd_ H
 obtain ⟨t109,A4,H⟩:=bd_ H
 simp only [Option.some.injEq,Prod.mk.injEq] at H
 obtain ⟨rfl,rfl,rfl,rfl,rfl,rfl,rfl,rfl,rfl⟩:=H
 go_enter Tryz.func72,Tryz.ntmps72
 try go_wp2_with (first|((with_reducible refine bq (N:=1) rfl ?_);refine br ?hg (N:=1) ?hd (cs:=#[.int .i64 bf,.bool bP,.slice dR cH.length dS,.string bE,.string bK,.bool bU,.slice cU bN.length cT,.slice dU cM.length dV,.int .i64 bX]) (t:=34) ?hr ?_;(case hd=>rfl);(case hg=>rfl);(case hr=>(go_simp;done));intro jg hg w5 bJ hb;have eu:=ah.mk (bJ);have azp:=ah.mk ((bI:w.heap.size≤jg));have agm:=ah.mk ((bI:w.heap.size≤jg));replace HB:=ah.mk (ay aJ hb);clear hb bJ hg)|((with_reducible refine bq (N:=2) rfl ?_);refine br ?hg (N:=2) ?hd (cs:=#[.int .i64 0,.bool false,.slice none 0 0,.string (⟨#[]⟩:ByteArray),.string (⟨#[]⟩:ByteArray),.bool false,.slice none 0 0,.slice none 0 0,.int .i64 0]) (t:=34) ?hr ?_;(case hd=>rfl);(case hg=>rfl);(case hr=>(go_simp;done));intro gS hg w6 bJ hb;have jo:=ah.mk (bJ);have azq:=ah.mk ((bI:w.heap.size≤gS));have agn:=ah.mk ((bI:w.heap.size≤gS));replace HB:=ah.mk (ay aJ hb);have wX:=ah.mk ((by rw [hg];exact Nat.ne_of_lt (dQ wG):jg≠gS));have pI:=ah.mk ((by rw [hg];exact Nat.ne_of_gt (dQ wG):gS≠jg));replace eu:=ah.mk (az wG hb);clear hb bJ hg))
 have jT:=ah.mk (iw eu.out)
 have jU:=ah.mk (iw jo.out)
 have mO:=ah.mk (fW HB.out)
 clear eu
 clear jo
 clear HB
 have eu:=jT
 have jo:=jU
 have HB:=mO
 clear jT jU mO
 refine kK (n:=17) (S:=fun w'=>w'.cell? ⟨jg,0,none⟩=some (.int .i64 bf)∧w'.cell? ⟨jg,1,none⟩=some (.bool bP)∧w'.cell? ⟨jg,2,none⟩=some (.slice dR cH.length dS)∧w'.cell? ⟨jg,3,none⟩=some (.string bE)∧w'.cell? ⟨jg,4,none⟩=some (.string bK)∧w'.cell? ⟨jg,5,none⟩=some (.bool bU)∧w'.cell? ⟨jg,6,none⟩=some (.slice cU bN.length cT)∧w'.cell? ⟨jg,7,none⟩=some (.slice dU cM.length dV)∧w'.cell? ⟨jg,8,none⟩=some (.int .i64 bX)) (ds:=[12,14,16]) #[false,false,false,false,false,false,false,false,false,false,false,false,false,false,false,false,false] aq (by rfl) (by rfl) ⟨(af eu.out 0).trans rfl,(af eu.out 1).trans rfl,(af eu.out 2).trans rfl,(af eu.out 3).trans rfl,(af eu.out 4).trans rfl,(af eu.out 5).trans rfl,(af eu.out 6).trans rfl,(af eu.out 7).trans rfl,(af eu.out 8).trans rfl⟩ (fun hHeld=>?_);refine kB iz.LS iz.DU (fun dc q8=>?_)
 generalize w6.drew=w7 at eu jo HB hHeld ⊢
 refine aN (i:=0) (N:=some 3) #[true,false,false,false,false,false,false,false,false,false,false,false,false,false,false,false,false] rfl rfl (bg dc.out aq) (fun _ _ _ h=>h) (Or.inl ⟨by rfl,cD⟩) rfl ?_
 refine aN (i:=1) (N:=some 4) #[true,true,false,false,false,false,false,false,false,false,false,false,false,false,false,false,false] rfl rfl (bg dc.out aq) (fun _ _ _ h=>h) (Or.inl ⟨by rfl,cD⟩) rfl ?_
 refine aN (i:=4) (N:=some 7) #[true,true,false,false,true,false,false,false,false,false,false,false,false,false,false,false,false] rfl rfl (bg dc.out aq) (fun _ _ _ h=>h) (Or.inl ⟨by rfl,cD⟩) rfl ?_
 refine aN (i:=7) (N:=some 10) #[true,true,false,false,true,false,false,true,false,false,false,false,false,false,false,false,false] rfl rfl (bg dc.out aq) (fun _ _ _ h=>h) (Or.inl ⟨by rfl,cD⟩) rfl ?_
 refine fN (i:=2) (N:=some 5) #[true,true,true,false,true,false,false,true,false,false,false,false,false,false,false,false,false] rfl rfl (eU dc.out q8.out aq) (fun _ _ _ h=>h) (Or.inl ⟨by rfl,pF⟩) hHeld rfl ?_
 refine fN (i:=5) (N:=some 8) #[true,true,true,false,true,true,false,true,false,false,false,false,false,false,false,false,false] rfl rfl (eU dc.out q8.out aq) (fun _ _ _ h=>h) (Or.inl ⟨by rfl,pF⟩) hHeld rfl ?_
 refine fN (i:=8) (N:=some 11) #[true,true,true,false,true,true,false,true,true,false,false,false,false,false,false,false,false] rfl rfl (eU dc.out q8.out aq) (fun _ _ _ h=>h) (Or.inl ⟨by rfl,pF⟩) hHeld rfl ?_
 refine nL (i:=3) (N:=some 6) #[true,true,true,true,true,true,false,true,true,false,false,false,false,false,false,false,false] rfl rfl (jJ dc.out aq) bB (fun K hK=>?_)
 refine lg Tryz.func119 aq rfl #[.slice dR cH.length dS] (by rfl) rfl rfl dI ?_
 with_reducible refine (fC.calls _ _ cH t103 _ ?bk ?bM A2.out).mono ?_
 (case bk=>repeat (exact (Kd.bD mI.out HB.out)))
 (case bM=>exact mJ.out)
 rintro e w8 ⟨aCC,rfl,ho0,hb⟩
 refine ⟨_,rfl,?_⟩
 have jT:=ah.mk (Kd.dW ho0 (cg aJ))
 have jU:=ah.mk (az (g:=jg) (o:= .cells #[.int .i64 bf,.bool bP,.slice dR cH.length dS,.string bE,.string bK,.bool bU,.slice cU bN.length cT,.slice dU cM.length dV,.int .i64 bX] 34 (0,0)) wG hb)
 have mO:=ah.mk (az (g:=gS) (o:= .cells #[.int .i64 0,.bool false,.slice none 0 0,.string (⟨#[]⟩:ByteArray),.string (⟨#[]⟩:ByteArray),.bool false,.slice none 0 0,.slice none 0 0,.int .i64 0] 34 (0,0)) (by exact jo.out) hb)
 have EK:=ah.mk (ay aJ hb)
 clear eu
 clear jo
 clear HB
 have Bo:=jT
 have eu:=jU
 have jo:=mO
 have HB:=EK
 clear jT jU mO EK
 refine hK.out _ _ ⟨(af eu.out 0).trans rfl,(af eu.out 1).trans rfl,(af eu.out 2).trans rfl,(af eu.out 3).trans rfl,(af eu.out 4).trans rfl,(af eu.out 5).trans rfl,(af eu.out 6).trans rfl,(af eu.out 7).trans rfl,(af eu.out 8).trans rfl⟩ (fun hHeld=>?_)
 clear hK K
 refine jW (a':=?_) ?_ ?_
 rotate_left
 ·show Act.put _ (some 6) _=_
  simp only [Act.put,List.setIfInBounds_toArray,List.set_cons_zero,List.set_cons_succ,aU,aV]
  rfl
 refine aN (i:=10) (N:=some 13) #[true,true,true,true,true,true,false,true,true,false,true,false,false,false,false,false,false] rfl rfl (bg dc.out aq) (fun _ _ _ h=>h) (Or.inl ⟨by rfl,cD⟩) rfl ?_
 refine aN (i:=11) (N:=some 14) #[true,true,true,true,true,true,false,true,true,false,true,true,false,false,false,false,false] rfl rfl (bg dc.out aq) (fun _ _ _ h=>h) (Or.inl ⟨by rfl,cD⟩) rfl ?_
 refine nL (i:=6) (N:=some 9) #[true,true,true,true,true,true,true,true,true,false,true,true,false,false,false,false,false] rfl rfl (jJ dc.out aq) bB (fun K hK=>?_)
 refine lg Tryz.func120 aq rfl #[.slice cU bN.length cT] (by rfl) rfl rfl dI ?_
 with_reducible refine (eA.calls _ _ bN t106 _ ?bk ?bM A3.out).mono ?_
 (case bk=>repeat (exact (Kd.bD lH.out HB.out)))
 (case bM=>exact mA.out)
 rintro e w9 ⟨v107,rfl,ho0,hb⟩
 refine ⟨_,rfl,?_⟩
 have jT:=ah.mk (Kd.bG (by exact Bo.out) hb)
 have jU:=ah.mk (Kd.dW ho0 (cg aJ))
 have mO:=ah.mk (az (g:=jg) (o:= .cells #[.int .i64 bf,.bool bP,.slice dR cH.length dS,.string bE,.string bK,.bool bU,.slice cU bN.length cT,.slice dU cM.length dV,.int .i64 bX] 34 (0,0)) wG hb)
 have EK:=ah.mk (az (g:=gS) (o:= .cells #[.int .i64 0,.bool false,.slice none 0 0,.string (⟨#[]⟩:ByteArray),.string (⟨#[]⟩:ByteArray),.bool false,.slice none 0 0,.slice none 0 0,.int .i64 0] 34 (0,0)) (by exact jo.out) hb)
 have JC:=ah.mk (ay aJ hb)
 clear Bo
 clear eu
 clear jo
 clear HB
 have Bo:=jT
 have Kj:=jU
 have eu:=mO
 have jo:=EK
 have HB:=JC
 clear jT jU mO EK JC
 refine hK.out _ _ ⟨(af eu.out 0).trans rfl,(af eu.out 1).trans rfl,(af eu.out 2).trans rfl,(af eu.out 3).trans rfl,(af eu.out 4).trans rfl,(af eu.out 5).trans rfl,(af eu.out 6).trans rfl,(af eu.out 7).trans rfl,(af eu.out 8).trans rfl⟩ (fun hHeld=>?_)
 clear hK K
 refine jW (a':=?_) ?_ ?_
 rotate_left
 ·show Act.put _ (some 9) _=_
  simp only [Act.put,List.setIfInBounds_toArray,List.set_cons_zero,List.set_cons_succ,aU,aV]
  rfl
 refine nL (i:=9) (N:=some 12) #[true,true,true,true,true,true,true,true,true,true,true,true,false,false,false,false,false] rfl rfl (jJ dc.out aq) bB (fun K hK=>?_)
 refine lg Tryz.func121 aq rfl #[.slice dU cM.length dV] (by rfl) rfl rfl dI ?_
 with_reducible refine (gp.calls _ _ cM t109 _ ?bk ?bM A4.out).mono ?_
 (case bk=>repeat (exact (Kd.bD vW.out HB.out)))
 (case bM=>exact vX.out)
 rintro e mR ⟨aCD,rfl,ho0,hb⟩
 refine ⟨_,rfl,?_⟩
 have jT:=ah.mk (Kd.bG (by exact Bo.out) hb)
 have jU:=ah.mk (Kd.bG (by exact Kj.out) hb)
 have mO:=ah.mk (Kd.dW ho0 (cg aJ))
 have EK:=ah.mk (az (g:=jg) (o:= .cells #[.int .i64 bf,.bool bP,.slice dR cH.length dS,.string bE,.string bK,.bool bU,.slice cU bN.length cT,.slice dU cM.length dV,.int .i64 bX] 34 (0,0)) wG hb)
 have JC:=ah.mk (az (g:=gS) (o:= .cells #[.int .i64 0,.bool false,.slice none 0 0,.string (⟨#[]⟩:ByteArray),.string (⟨#[]⟩:ByteArray),.bool false,.slice none 0 0,.slice none 0 0,.int .i64 0] 34 (0,0)) (by exact jo.out) hb)
 have LU:=ah.mk (ay aJ hb)
 clear Bo
 clear Kj
 clear eu
 clear jo
 clear HB
 have Bo:=jT
 have Kj:=jU
 have aaq:=mO
 have eu:=EK
 have jo:=JC
 have HB:=LU
 clear jT jU mO EK JC LU
 obtain ⟨xZ,ya,acf⟩:=Kd.dh Bo.out
 (subst acf)
 obtain ⟨Hu,Hv,aw1⟩:=Kd.dh Kj.out
 (subst aw1)
 obtain ⟨GS,GU,abR⟩:=Kd.dh aaq.out
 (subst abR)
 refine hK.out _ _ ⟨(af eu.out 0).trans rfl,(af eu.out 1).trans rfl,(af eu.out 2).trans rfl,(af eu.out 3).trans rfl,(af eu.out 4).trans rfl,(af eu.out 5).trans rfl,(af eu.out 6).trans rfl,(af eu.out 7).trans rfl,(af eu.out 8).trans rfl⟩ (fun hHeld=>?_)
 clear hK K
 refine jW (a':=?_) ?_ ?_
 rotate_left
 ·show Act.put _ (some 12) _=_
  simp only [Act.put,List.setIfInBounds_toArray,List.set_cons_zero,List.set_cons_succ,aU,aV]
  rfl
 refine JO (i:=12) (N:=none) #[true,true,true,true,true,true,true,true,true,true,true,true,true,false,false,false,false] rfl rfl (jJ dc.out aq) bB (fun K hK=>?_)
 have aCE:mR.cell? ⟨jg,2,none⟩=some (.slice dR cH.length dS):=(af eu.out 2).trans rfl
 have azr:=aa eu.out 2
 have ape:=pI.out
 have apf:=wX.out
 refine JP (w1:=?_) (by rfl) rfl ?_ ?_
 rotate_left
 ·go_simp
  rfl
 refine hK.out _ _ ?_
 clear hK K
 refine aN (i:=13) (N:=some 15) #[true,true,true,true,true,true,true,true,true,true,true,true,true,true,false,false,false] rfl rfl (bg dc.out aq) (fun _ _ _ h=>h) (Or.inl ⟨by rfl,cD⟩) rfl ?_
 refine JO (i:=14) (N:=none) #[true,true,true,true,true,true,true,true,true,true,true,true,true,true,true,false,false] rfl rfl (jJ dc.out aq) bB (fun K hK=>?_)
 have aCF:mR.cell? ⟨jg,6,none⟩=some (.slice cU bN.length cT):=(af eu.out 6).trans rfl
 have azs:=aa eu.out 6
 have apg:=pI.out
 have aph:=wX.out
 refine JP (w1:=?_) (by rfl) rfl ?_ ?_
 rotate_left
 ·go_simp
  rfl
 refine hK.out _ _ ?_
 clear hK K
 refine aN (i:=15) (N:=some 16) #[true,true,true,true,true,true,true,true,true,true,true,true,true,true,true,true,false] rfl rfl (bg dc.out aq) (fun _ _ _ h=>h) (Or.inl ⟨by rfl,cD⟩) rfl ?_
 refine JO (i:=16) (N:=none) #[true,true,true,true,true,true,true,true,true,true,true,true,true,true,true,true,true] rfl rfl (jJ dc.out aq) bB (fun K hK=>?_)
 have aCG:mR.cell? ⟨jg,7,none⟩=some (.slice dU cM.length dV):=(af eu.out 7).trans rfl
 have azt:=aa eu.out 7
 have api:=pI.out
 have apj:=wX.out
 refine JP (w1:=?_) (by rfl) rfl ?_ ?_
 rotate_left
 ·go_simp
  rfl
 refine hK.out _ _ ?_
 clear hK K
 refine nk (nD dc.out aq) ?_
 have aar:=wX.out
 have aas:=pI.out
 have Cm:mR.cell? ⟨jg,0,none⟩=some (.int .i64 bf):=(af eu.out 0).trans rfl
 have Cn:mR.cell? ⟨jg,1,none⟩=some (.bool bP):=(af eu.out 1).trans rfl
 have Co:mR.cell? ⟨jg,2,none⟩=some (.slice dR cH.length dS):=(af eu.out 2).trans rfl
 have Cq:mR.cell? ⟨jg,3,none⟩=some (.string bE):=(af eu.out 3).trans rfl
 have Cr:mR.cell? ⟨jg,4,none⟩=some (.string bK):=(af eu.out 4).trans rfl
 have Gw:mR.cell? ⟨jg,5,none⟩=some (.bool bU):=(af eu.out 5).trans rfl
 have Ns:mR.cell? ⟨jg,6,none⟩=some (.slice cU bN.length cT):=(af eu.out 6).trans rfl
 have Nt:mR.cell? ⟨jg,7,none⟩=some (.slice dU cM.length dV):=(af eu.out 7).trans rfl
 have Nu:mR.cell? ⟨jg,8,none⟩=some (.int .i64 bX):=(af eu.out 8).trans rfl
 have Cs:=aa eu.out 0
 have Ct:=aa eu.out 1
 have Cu:=aa eu.out 2
 have Cv:=aa eu.out 3
 have Cw:=aa eu.out 4
 have Gx:=aa eu.out 5
 have Nv:=aa eu.out 6
 have Nw:=aa eu.out 7
 have Ny:=aa eu.out 8
 have CM:mR.cell? ⟨gS,0,none⟩=some (.int .i64 0):=(af jo.out 0).trans rfl
 have CN:mR.cell? ⟨gS,1,none⟩=some (.bool false):=(af jo.out 1).trans rfl
 have CO:mR.cell? ⟨gS,2,none⟩=some (.slice none 0 0):=(af jo.out 2).trans rfl
 have CP:mR.cell? ⟨gS,3,none⟩=some (.string (⟨#[]⟩:ByteArray)):=(af jo.out 3).trans rfl
 have CQ:mR.cell? ⟨gS,4,none⟩=some (.string (⟨#[]⟩:ByteArray)):=(af jo.out 4).trans rfl
 have CR:mR.cell? ⟨gS,5,none⟩=some (.bool false):=(af jo.out 5).trans rfl
 have CS:mR.cell? ⟨gS,6,none⟩=some (.slice none 0 0):=(af jo.out 6).trans rfl
 have CT:mR.cell? ⟨gS,7,none⟩=some (.slice none 0 0):=(af jo.out 7).trans rfl
 have CU:mR.cell? ⟨gS,8,none⟩=some (.int .i64 0):=(af jo.out 8).trans rfl
 have CV:=aa jo.out 0
 have CX:=aa jo.out 1
 have CY:=aa jo.out 2
 have CZ:=aa jo.out 3
 have C0:=aa jo.out 4
 have C2:=aa jo.out 5
 have C3:=aa jo.out 6
 have C4:=aa jo.out 7
 have C5:=aa jo.out 8
 try go_wp2
 refine bodyPost_ret (results_cell_row rfl _ _ gS 34 #[.int .i64 bf,.bool bP,.slice xZ t103.length ya,.string bE,.string bK,.bool bU,.slice Hu t106.length Hv,.slice GS t109.length GU,.int .i64 bX] (0,0) _ rfl (by refine aZ (cs:=#[.int .i64 bf,.bool bP,.slice xZ t103.length ya,.string bE,.string bK,.bool bU,.slice Hu t106.length Hv,.slice GS t109.length GU,.int .i64 0]) ?_ 8 _ rfl;refine aZ (cs:=#[.int .i64 bf,.bool bP,.slice xZ t103.length ya,.string bE,.string bK,.bool bU,.slice Hu t106.length Hv,.slice none 0 0,.int .i64 0]) ?_ 7 _ rfl;refine aZ (cs:=#[.int .i64 bf,.bool bP,.slice xZ t103.length ya,.string bE,.string bK,.bool bU,.slice none 0 0,.slice none 0 0,.int .i64 0]) ?_ 6 _ rfl;refine aZ (cs:=#[.int .i64 bf,.bool bP,.slice xZ t103.length ya,.string bE,.string bK,.bool false,.slice none 0 0,.slice none 0 0,.int .i64 0]) ?_ 5 _ rfl;refine aZ (cs:=#[.int .i64 bf,.bool bP,.slice xZ t103.length ya,.string bE,.string (⟨#[]⟩:ByteArray),.bool false,.slice none 0 0,.slice none 0 0,.int .i64 0]) ?_ 4 _ rfl;refine aZ (cs:=#[.int .i64 bf,.bool bP,.slice xZ t103.length ya,.string (⟨#[]⟩:ByteArray),.string (⟨#[]⟩:ByteArray),.bool false,.slice none 0 0,.slice none 0 0,.int .i64 0]) ?_ 3 _ rfl;refine aZ (cs:=#[.int .i64 bf,.bool bP,.slice none 0 0,.string (⟨#[]⟩:ByteArray),.string (⟨#[]⟩:ByteArray),.bool false,.slice none 0 0,.slice none 0 0,.int .i64 0]) ?_ 2 _ rfl;refine aZ (cs:=#[.int .i64 bf,.bool false,.slice none 0 0,.string (⟨#[]⟩:ByteArray),.string (⟨#[]⟩:ByteArray),.bool false,.slice none 0 0,.slice none 0 0,.int .i64 0]) ?_ 1 _ rfl;refine aZ (cs:=#[.int .i64 0,.bool false,.slice none 0 0,.string (⟨#[]⟩:ByteArray),.string (⟨#[]⟩:ByteArray),.bool false,.slice none 0 0,.slice none 0 0,.int .i64 0]) ?_ 0 _ rfl;refine aW ?_ pI.out _;refine aW ?_ pI.out _;refine aW ?_ pI.out _;exact jo.out) Tryz.underlying34 rfl aq) rfl ?_
 exact ⟨_,_,_,by rfl,by exact Kd.dH (Kd.bw (p:=⟨gS,8,none⟩) (Kd.bw (p:=⟨gS,7,none⟩) (Kd.bw (p:=⟨gS,6,none⟩) (Kd.bw (p:=⟨gS,5,none⟩) (Kd.bw (p:=⟨gS,4,none⟩) (Kd.bw (p:=⟨gS,3,none⟩) (Kd.bw (p:=⟨gS,2,none⟩) (Kd.bw (p:=⟨gS,1,none⟩) (Kd.bw (p:=⟨gS,0,none⟩) (Kd.bw (p:=⟨jg,7,none⟩) (Kd.bw (p:=⟨jg,6,none⟩) (Kd.bw (p:=⟨jg,2,none⟩) (Kd.dD (Kd.dD Bo.out eu.out bB) jo.out bB) (fun _ hk=>hk.1.2) (.slice xZ t103.length ya)) (fun _ hk=>hk.1.2) (.slice Hu t106.length Hv)) (fun _ hk=>hk.1.2) (.slice GS t109.length GU)) (fun _ hk=>hk.2) (.int .i64 bf)) (fun _ hk=>hk.2) (.bool bP)) (fun _ hk=>hk.2) (.slice xZ t103.length ya)) (fun _ hk=>hk.2) (.string bE)) (fun _ hk=>hk.2) (.string bK)) (fun _ hk=>hk.2) (.bool bU)) (fun _ hk=>hk.2) (.slice Hu t106.length Hv)) (fun _ hk=>hk.2) (.slice GS t109.length GU)) (fun _ hk=>hk.2) (.int .i64 bX)) (fun _ hk=>trivial),by exact Kd.dH (Kd.bw (p:=⟨gS,8,none⟩) (Kd.bw (p:=⟨gS,7,none⟩) (Kd.bw (p:=⟨gS,6,none⟩) (Kd.bw (p:=⟨gS,5,none⟩) (Kd.bw (p:=⟨gS,4,none⟩) (Kd.bw (p:=⟨gS,3,none⟩) (Kd.bw (p:=⟨gS,2,none⟩) (Kd.bw (p:=⟨gS,1,none⟩) (Kd.bw (p:=⟨gS,0,none⟩) (Kd.bw (p:=⟨jg,7,none⟩) (Kd.bw (p:=⟨jg,6,none⟩) (Kd.bw (p:=⟨jg,2,none⟩) (Kd.dD (Kd.dD Kj.out eu.out bB) jo.out bB) (fun _ hk=>hk.1.2) (.slice xZ t103.length ya)) (fun _ hk=>hk.1.2) (.slice Hu t106.length Hv)) (fun _ hk=>hk.1.2) (.slice GS t109.length GU)) (fun _ hk=>hk.2) (.int .i64 bf)) (fun _ hk=>hk.2) (.bool bP)) (fun _ hk=>hk.2) (.slice xZ t103.length ya)) (fun _ hk=>hk.2) (.string bE)) (fun _ hk=>hk.2) (.string bK)) (fun _ hk=>hk.2) (.bool bU)) (fun _ hk=>hk.2) (.slice Hu t106.length Hv)) (fun _ hk=>hk.2) (.slice GS t109.length GU)) (fun _ hk=>hk.2) (.int .i64 bX)) (fun _ hk=>trivial),by exact Kd.dH (Kd.bw (p:=⟨gS,8,none⟩) (Kd.bw (p:=⟨gS,7,none⟩) (Kd.bw (p:=⟨gS,6,none⟩) (Kd.bw (p:=⟨gS,5,none⟩) (Kd.bw (p:=⟨gS,4,none⟩) (Kd.bw (p:=⟨gS,3,none⟩) (Kd.bw (p:=⟨gS,2,none⟩) (Kd.bw (p:=⟨gS,1,none⟩) (Kd.bw (p:=⟨gS,0,none⟩) (Kd.bw (p:=⟨jg,7,none⟩) (Kd.bw (p:=⟨jg,6,none⟩) (Kd.bw (p:=⟨jg,2,none⟩) (Kd.dD (Kd.dD aaq.out eu.out bB) jo.out bB) (fun _ hk=>hk.1.2) (.slice xZ t103.length ya)) (fun _ hk=>hk.1.2) (.slice Hu t106.length Hv)) (fun _ hk=>hk.1.2) (.slice GS t109.length GU)) (fun _ hk=>hk.2) (.int .i64 bf)) (fun _ hk=>hk.2) (.bool bP)) (fun _ hk=>hk.2) (.slice xZ t103.length ya)) (fun _ hk=>hk.2) (.string bE)) (fun _ hk=>hk.2) (.string bK)) (fun _ hk=>hk.2) (.bool bU)) (fun _ hk=>hk.2) (.slice Hu t106.length Hv)) (fun _ hk=>hk.2) (.slice GS t109.length GU)) (fun _ hk=>hk.2) (.int .i64 bX)) (fun _ hk=>trivial),by repeat ((with_reducible first|exact HB.out|refine cG ?_ agm.out|refine cG ?_ agn.out))⟩
def cy.l0:Nat→List (o8)→Int→Int→Int→List (o8)→Option (Int×(List (o8)))
 | 0,_,_,_,_,_ =>none
 |k + 1,LV,vJ,xA,Ox,Hw=>if xA < vJ then (if 0≤xA then (if xA < (LV.length:Int) then ((iz.f ((aj LV xA).f0) ((aj LV xA).f1.f0) ((aj LV xA).f1.f1) ((aj LV xA).f1.f2.f0) ((aj LV xA).f1.f2.f1) ((aj LV xA).f1.f2.f2) ((aj LV xA).f2) ((aj LV xA).f3) ((aj LV xA).f4)).bind fun zA=>(if Hw.length < 1034834473200 then (cy.l0 k LV vJ (wrap64 (xA + 1)) Ox (Hw ++ [(⟨zA.1,(⟨zA.2.1,zA.2.2.1,(⟨zA.2.2.2.1,zA.2.2.2.2.1,zA.2.2.2.2.2.1⟩:E2)⟩:Rz),zA.2.2.2.2.2.2.1,zA.2.2.2.2.2.2.2.1,zA.2.2.2.2.2.2.2.2⟩:o8)])) else (none))) else (none)) else (none)) else (some (Ox,Hw))
def cy.f (k:Nat) (bf:Int) (aD:List (o8)):Option (Int×(List (o8))):=cy.l0 k aD (aD.length:Int) 0 bf ([]:List (o8))
theorem cy.ey:∀ k,(∀ y0 y1 y2 y3 y4,eY (cy.l0 k y0 y1 y2 y3 y4) (cy.l0 (k + 1) y0 y1 y2 y3 y4))
 | 0=>fun _ _ _ _ _ r h=>by simp [cy.l0] at h
 |k + 1=>by
  have mC:=cy.ey k
  ·intro y0 y1 y2 y3 y4
   unfold cy.l0
   repeat' (with_reducible first|exact mC _ _ _ _ _|exact eY.refl _|refine eY.ite ?_ ?_|refine eY.bind ?_ (fun _ =>?_))
theorem cy.mono:∀ a0 a1 k,eY (cy.f k a0 a1) (cy.f (k + 1) a0 a1):=by
 intro a0 a1 k
 have mC:=cy.ey k
 unfold cy.f
 repeat' (with_reducible exact mC _ _ _ _ _)
def cy.T5:Bool×List (List Nat×List Nat):=(true,[([],[]),([0],[0]),([],[]),([2],[2]),([3],[3]),([1,4,3],[1,4]),([0,1,2,3,4,5],[]),([6,5,5,0,1,2,3,4,5],[5,6])])
def cy.B5:List Nat:=[0,1,0,4,12,31,63,127]
theorem cy.aw2:pW .any (opsOf Tryz.f57 5)=cy.T5:=by kernel_rfl
theorem cy.ago:pP cy.T5.2 cy.B5=true:=by kernel_rfl
theorem cy.calls (k:Nat) (bf:Int) (iQ:Option Addr) (gJ:Nat) (aD:List (o8)) (r1:Int) (r2:List (o8)) (w:World) (nR:Kd.C E4 w iQ aD.length aD) (nS:aD.length≤gJ) (h:cy.f k bf aD=some (r1,r2)):
 Calls Tryz.prog 57 #[.agg #[.int .i64 bf,.slice iQ aD.length gJ]] w fun e w'=>∃ RG:Value,e= .returned (.agg #[.int .i64 r1,RG])∧Kd.S E4 34 w' w.heap.size (fun _ =>True) RG r2∧Below w.heap.size w w':=by
 have QG:=Tryz.underlying40
 have BD:=Tryz.underlying34
 have rH:=ah.mk nR
 have DJ:=ah.mk nS
 clear nR nS
 have HB:=ah.mk (Below.refl w.heap.size w)
 have H:(cy.l0 k aD (aD.length:Int) 0 bf ([]:List (o8)))=some (r1,r2):=h
 clear h
 have H':=ah.mk H
 clear H
 go_enter Tryz.func57,Tryz.ntmps57
 go_wp2_with (first|((with_reducible refine bq (N:=1) rfl ?_);refine br ?hg (N:=1) ?hd (cs:=#[.int .i64 bf,.slice iQ aD.length gJ]) (t:=40) ?hr ?_;(case hd=>rfl);(case hg=>rfl);(case hr=>(go_simp;done));intro qy hg w2 bJ hb;have kO:=ah.mk (bJ);have azu:=ah.mk ((bI:w.heap.size≤qy));have azv:=ah.mk ((bI:w.heap.size≤qy));replace HB:=ah.mk (ay aJ hb);clear hb bJ hg)|((with_reducible refine bq (N:=2) rfl ?_);refine br ?hg (N:=2) ?hd (cs:=#[.int .i64 0,.slice none 0 0]) (t:=40) ?hr ?_;(case hd=>rfl);(case hg=>rfl);(case hr=>(go_simp;done));intro p8 hg w3 bJ hb;have mF:=ah.mk (bJ);have azw:=ah.mk ((bI:w.heap.size≤p8));have agp:=ah.mk ((bI:w.heap.size≤p8));replace HB:=ah.mk (ay aJ hb);have E9:=ah.mk ((FY:qy≠p8));have Fa:=ah.mk ((FZ:p8≠qy));replace kO:=ah.mk (az yt hb);clear hb bJ hg;have aCH:=E9.out;have aCI:=Fa.out;have S4:w3.cell? ⟨qy,0,none⟩=some (.int .i64 bf):=(af kO.out 0).trans rfl;have S5:w3.cell? ⟨qy,1,none⟩=some (.slice iQ aD.length gJ):=(af kO.out 1).trans rfl;have S6:=aa kO.out 0;have S7:=aa kO.out 1)|((with_reducible refine bq (N:=3) rfl ?_);refine br ?hg (N:=3) ?hd (cs:=#[.int .i64 0,.slice none 0 0]) (t:=40) ?hr ?_;(case hd=>rfl);(case hg=>rfl);(case hr=>(go_simp;done));intro nU hg w6 bJ hb;have iR:=ah.mk (bJ);have azx:=ah.mk ((bI:w.heap.size≤nU));have adV:=ah.mk ((bI:w.heap.size≤nU));replace HB:=ah.mk (ay aJ hb);have qK:=ah.mk ((FY:qy≠nU));have Ap:=ah.mk ((FZ:nU≠qy));replace kO:=ah.mk (az yt hb);have qL:=ah.mk ((by rw [hg];exact Nat.ne_of_lt (dQ rB):p8≠nU));have Aq:=ah.mk ((by rw [hg];exact Nat.ne_of_gt (dQ rB):nU≠p8));replace mF:=ah.mk (az rB hb);clear hb bJ hg;have agq:=Ap.out;have agr:=qK.out;have aCJ:=Aq.out;have aCK:=qL.out;have Af:w6.cell? ⟨nU,0,none⟩=some (.int .i64 0):=(af iR.out 0).trans rfl;have Ag:w6.cell? ⟨nU,1,none⟩=some (.slice none 0 0):=(af iR.out 1).trans rfl;have Ah:=aa iR.out 0;have Ai:=aa iR.out 1;have Gl:w6.cell? ⟨qy,0,none⟩=some (.int .i64 bf):=(af kO.out 0).trans rfl;have Gm:w6.cell? ⟨qy,1,none⟩=some (.slice iQ aD.length gJ):=(af kO.out 1).trans rfl;have Gn:=aa kO.out 0;have Gp:=aa kO.out 1))
 go_loopg [12] k (fun kq v12 w'=>∃ (bT:Int) (nV:List (o8)) (ke:Value),v12= .int .i64 bT∧ah (cy.l0 kq aD (aD.length:Int) bT bf nV=some (r1,r2))∧ah (kq≤k)∧ah (Kd.S E4 34 w' w.heap.size (fun _ =>True) ke nV)∧ah (w'.heap[qy]? =some (.cells #[.int .i64 bf,(.slice iQ aD.length gJ)] 40 (0,0)))∧ah (w'.heap[p8]? =some (.cells #[.int .i64 0,(.slice none 0 0)] 40 (0,0)))∧ah (w'.heap[nU]? =some (.cells #[.int .i64 bf,ke] 40 (0,0)))∧ah (Below w.heap.size w w'))
 case atStart=>exact ⟨(0),(([]:List (o8))),(.slice none 0 0),(by rfl),H',⟨Nat.le_refl _⟩,⟨by exact Kd.Z6 _ _ _ _ _⟩,⟨by refine aW ?_ qK.out _;refine aW ?_ qK.out _;exact kO.out⟩,⟨by refine aW ?_ qL.out _;refine aW ?_ qL.out _;exact mF.out⟩,⟨by refine aZ (cs:=#[.int .i64 bf,.slice none 0 0]) ?_ 1 _ rfl;refine aZ (cs:=#[.int .i64 0,.slice none 0 0]) ?_ 0 _ rfl;exact iR.out⟩,⟨M0⟩⟩
 case round=>
  clear H'
  obtain ⟨bT,nV,ke,rfl,HA,qi,fO,kO,mF,iR,HB⟩:=hrel
  cases gk with
  |zero=>exact absurd HA.out (by simp [cy.l0])
  |succ k1=>
   have H:=HA.out
   clear HA
   simp only [cy.l0] at H
   by_cases c11:bT < (aD.length:Int)
   ·rw [if_pos c11] at H
    have DA:=decide_eq_true c11
    clear c11
    obtain ⟨c12,H⟩:=lJ H
    have J0:=decide_eq_true c12
    clear c12
    obtain ⟨c13,H⟩:=lJ H
    have DG:=decide_eq_true c13
    clear c13
    obtain ⟨⟨t117,t118,t119,t122,t123,t124,t125,t128,t131⟩,A14,H⟩:=bd_ H
    (try dsimp only at H)
    obtain ⟨c15,H⟩:=lJ H
    have ags:=ah.mk c15
    clear c15
    obtain ⟨Yp,TA⟩:∃ y_:List (o8),y_=(nV ++ [(⟨t117,(⟨t118,t119,(⟨t122,t123,t124⟩:E2)⟩:Rz),t125,t128,t131⟩:o8)]):=⟨_,rfl⟩
    replace H:(cy.l0 k1 aD (aD.length:Int) (wrap64 (bT + 1)) bf Yp)=some (r1,r2):=by (rw [TA];with_reducible exact H)
    have agt:=ah.mk TA
    clear TA
    have H':=ah.mk H
    clear H
    have acg: 0≤(bT:Int):=of_decide_eq_true cu
    have ach:bT < (aD.length:Int):=of_decide_eq_true cu
    obtain ⟨TB,lA,lB,mZ,ng,nM,nN,aw3,Hx,Hy,Hz,HJ,Ia,Ib,Ic,Ie,Ig,Oy,Oz,OA,OB,OC,OD⟩:=qm rH.out bT acg ach
    cases aw3
    replace Hx:=(HB.out.cell (World.block_lt_of_cell? w _ Hx)).trans Hx
    replace Hy:=(HB.out.cell (World.block_lt_of_cell? w _ Hy)).trans Hy
    replace Hz:=(HB.out.cell (World.block_lt_of_cell? w _ Hz)).trans Hz
    replace HJ:=(HB.out.cell (World.block_lt_of_cell? w _ HJ)).trans HJ
    replace Ia:=(HB.out.cell (World.block_lt_of_cell? w _ Ia)).trans Ia
    replace Ib:=(HB.out.cell (World.block_lt_of_cell? w _ Ib)).trans Ib
    replace Ic:=(HB.out.cell (World.block_lt_of_cell? w _ Ic)).trans Ic
    replace Ie:=(HB.out.cell (World.block_lt_of_cell? w _ Ie)).trans Ie
    replace Ig:=(HB.out.cell (World.block_lt_of_cell? w _ Ig)).trans Ig
    have Yq:=ah.mk Oz
    have Yr:=ah.mk Oy
    clear Oz Oy
    have Yt:=ah.mk OB
    have Yu:=ah.mk OA
    clear OB OA
    have Yv:=ah.mk OD
    have Yw:=ah.mk OC
    clear OD OC
    replace acg:=eq_true acg
    replace ach:=eq_true ach
    try go_wp2_with (((with_reducible refine bq (N:=5) rfl ?_);refine br ?hg (N:=5) ?hd (cs:=#[.int .i64 0,.bool false,.slice none 0 0,.string (⟨#[]⟩:ByteArray),.string (⟨#[]⟩:ByteArray),.bool false,.slice none 0 0,.slice none 0 0,.int .i64 0]) (t:=34) ?hr ?_;(case hd=>rfl);(case hg=>rfl);(case hr=>(go_simp;done));intro cO hg tC bJ hb;replace fO:=ah.mk (Kd.dX (Kd.SK (by exact fO.out) cO (Nat.le_of_eq hg.symm)) hb);have eD:=ah.mk (bJ);have azy:=ah.mk ((bI:w.heap.size≤cO));have agu:=ah.mk ((bI:w.heap.size≤cO));replace HB:=ah.mk (ay aJ hb);have lT:=ah.mk ((FY:qy≠cO));have QJ:=ah.mk ((FZ:cO≠qy));replace kO:=ah.mk (az yt hb);have lU:=ah.mk ((by rw [hg];exact Nat.ne_of_lt (dQ rB):p8≠cO));have QK:=ah.mk ((by rw [hg];exact Nat.ne_of_gt (dQ rB):cO≠p8));replace mF:=ah.mk (az rB hb);have lC:=ah.mk ((by rw [hg];exact Nat.ne_of_lt (dQ (by exact iR.out)):nU≠cO));have Fb:=ah.mk ((by rw [hg];exact Nat.ne_of_gt (dQ (by exact iR.out)):cO≠nU));replace iR:=ah.mk (az (by exact iR.out) hb);clear hb bJ hg;have aar:=QJ.out;have aas:=lT.out;have aat:=QK.out;have aau:=lU.out;have aav:=Fb.out;have aaw:=lC.out;have Cz:tC.cell? ⟨cO,0,none⟩=some (.int .i64 0):=(af eD.out 0).trans rfl;have CA:tC.cell? ⟨cO,1,none⟩=some (.bool false):=(af eD.out 1).trans rfl;have CB:tC.cell? ⟨cO,2,none⟩=some (.slice none 0 0):=(af eD.out 2).trans rfl;have Ih:tC.cell? ⟨cO,3,none⟩=some (.string (⟨#[]⟩:ByteArray)):=(af eD.out 3).trans rfl;have Ii:tC.cell? ⟨cO,4,none⟩=some (.string (⟨#[]⟩:ByteArray)):=(af eD.out 4).trans rfl;have Ij:tC.cell? ⟨cO,5,none⟩=some (.bool false):=(af eD.out 5).trans rfl;have OE:tC.cell? ⟨cO,6,none⟩=some (.slice none 0 0):=(af eD.out 6).trans rfl;have OG:tC.cell? ⟨cO,7,none⟩=some (.slice none 0 0):=(af eD.out 7).trans rfl;have OH:tC.cell? ⟨cO,8,none⟩=some (.int .i64 0):=(af eD.out 8).trans rfl;have CC:=aa eD.out 0;have CD:=aa eD.out 1;have CE:=aa eD.out 2;have Ik:=aa eD.out 3;have Il:=aa eD.out 4;have Im:=aa eD.out 5;have OI:=aa eD.out 6;have OJ:=aa eD.out 7;have OL:=aa eD.out 8))
    have jT:ah (Kd.S E4 34 (((((((((tC.setCell ⟨cO,0,none⟩ (.int .i64 ((aj aD bT).f0))).setCell ⟨cO,1,none⟩ (.bool ((aj aD bT).f1.f0))).setCell ⟨cO,2,none⟩ (.slice lA ((aj aD bT).f1.f1).length lB)).setCell ⟨cO,3,none⟩ (.string ((aj aD bT).f1.f2.f0))).setCell ⟨cO,4,none⟩ (.string ((aj aD bT).f1.f2.f1))).setCell ⟨cO,5,none⟩ (.bool ((aj aD bT).f1.f2.f2))).setCell ⟨cO,6,none⟩ (.slice mZ ((aj aD bT).f2).length ng)).setCell ⟨cO,7,none⟩ (.slice nM ((aj aD bT).f3).length nN)).setCell ⟨cO,8,none⟩ (.int .i64 ((aj aD bT).f4))) w.heap.size (fun k_ =>k_≠cO) ke nV):=⟨by exact Kd.fB (Kd.cB (p:=⟨cO,8,none⟩) (Kd.cB (p:=⟨cO,7,none⟩) (Kd.cB (p:=⟨cO,6,none⟩) (Kd.cB (p:=⟨cO,5,none⟩) (Kd.cB (p:=⟨cO,4,none⟩) (Kd.cB (p:=⟨cO,3,none⟩) (Kd.cB (p:=⟨cO,2,none⟩) (Kd.cB (p:=⟨cO,1,none⟩) (Kd.cB (p:=⟨cO,0,none⟩) (Kd.fB fO.out (fun k_ hk=>(⟨hk,hk.2⟩:_∧k_≠cO))) (fun _ hk=>hk.2) (.int .i64 ((aj aD bT).f0))) (fun _ hk=>hk.2) (.bool ((aj aD bT).f1.f0))) (fun _ hk=>hk.2) (.slice lA ((aj aD bT).f1.f1).length lB)) (fun _ hk=>hk.2) (.string ((aj aD bT).f1.f2.f0))) (fun _ hk=>hk.2) (.string ((aj aD bT).f1.f2.f1))) (fun _ hk=>hk.2) (.bool ((aj aD bT).f1.f2.f2))) (fun _ hk=>hk.2) (.slice mZ ((aj aD bT).f2).length ng)) (fun _ hk=>hk.2) (.slice nM ((aj aD bT).f3).length nN)) (fun _ hk=>hk.2) (.int .i64 ((aj aD bT).f4))) (fun _ hk=>hk.1.2)⟩
    have jU:ah ((((((((((tC.setCell ⟨cO,0,none⟩ (.int .i64 ((aj aD bT).f0))).setCell ⟨cO,1,none⟩ (.bool ((aj aD bT).f1.f0))).setCell ⟨cO,2,none⟩ (.slice lA ((aj aD bT).f1.f1).length lB)).setCell ⟨cO,3,none⟩ (.string ((aj aD bT).f1.f2.f0))).setCell ⟨cO,4,none⟩ (.string ((aj aD bT).f1.f2.f1))).setCell ⟨cO,5,none⟩ (.bool ((aj aD bT).f1.f2.f2))).setCell ⟨cO,6,none⟩ (.slice mZ ((aj aD bT).f2).length ng)).setCell ⟨cO,7,none⟩ (.slice nM ((aj aD bT).f3).length nN)).setCell ⟨cO,8,none⟩ (.int .i64 ((aj aD bT).f4))).heap[qy]? =some (.cells #[.int .i64 bf,.slice (some TB) aD.length gJ] 40 (0,0))):=⟨by refine aW ?_ lT.out _;refine aW ?_ lT.out _;refine aW ?_ lT.out _;refine aW ?_ lT.out _;refine aW ?_ lT.out _;refine aW ?_ lT.out _;refine aW ?_ lT.out _;refine aW ?_ lT.out _;refine aW ?_ lT.out _;exact kO.out⟩
    have mO:ah ((((((((((tC.setCell ⟨cO,0,none⟩ (.int .i64 ((aj aD bT).f0))).setCell ⟨cO,1,none⟩ (.bool ((aj aD bT).f1.f0))).setCell ⟨cO,2,none⟩ (.slice lA ((aj aD bT).f1.f1).length lB)).setCell ⟨cO,3,none⟩ (.string ((aj aD bT).f1.f2.f0))).setCell ⟨cO,4,none⟩ (.string ((aj aD bT).f1.f2.f1))).setCell ⟨cO,5,none⟩ (.bool ((aj aD bT).f1.f2.f2))).setCell ⟨cO,6,none⟩ (.slice mZ ((aj aD bT).f2).length ng)).setCell ⟨cO,7,none⟩ (.slice nM ((aj aD bT).f3).length nN)).setCell ⟨cO,8,none⟩ (.int .i64 ((aj aD bT).f4))).heap[p8]? =some (.cells #[.int .i64 0,.slice none 0 0] 40 (0,0))):=⟨by refine aW ?_ lU.out _;refine aW ?_ lU.out _;refine aW ?_ lU.out _;refine aW ?_ lU.out _;refine aW ?_ lU.out _;refine aW ?_ lU.out _;refine aW ?_ lU.out _;refine aW ?_ lU.out _;refine aW ?_ lU.out _;exact mF.out⟩
    have EK:ah ((((((((((tC.setCell ⟨cO,0,none⟩ (.int .i64 ((aj aD bT).f0))).setCell ⟨cO,1,none⟩ (.bool ((aj aD bT).f1.f0))).setCell ⟨cO,2,none⟩ (.slice lA ((aj aD bT).f1.f1).length lB)).setCell ⟨cO,3,none⟩ (.string ((aj aD bT).f1.f2.f0))).setCell ⟨cO,4,none⟩ (.string ((aj aD bT).f1.f2.f1))).setCell ⟨cO,5,none⟩ (.bool ((aj aD bT).f1.f2.f2))).setCell ⟨cO,6,none⟩ (.slice mZ ((aj aD bT).f2).length ng)).setCell ⟨cO,7,none⟩ (.slice nM ((aj aD bT).f3).length nN)).setCell ⟨cO,8,none⟩ (.int .i64 ((aj aD bT).f4))).heap[nU]? =some (.cells #[.int .i64 bf,ke] 40 (0,0))):=⟨by refine aW ?_ lC.out _;refine aW ?_ lC.out _;refine aW ?_ lC.out _;refine aW ?_ lC.out _;refine aW ?_ lC.out _;refine aW ?_ lC.out _;refine aW ?_ lC.out _;refine aW ?_ lC.out _;refine aW ?_ lC.out _;exact iR.out⟩
    have JC:ah ((((((((((tC.setCell ⟨cO,0,none⟩ (.int .i64 ((aj aD bT).f0))).setCell ⟨cO,1,none⟩ (.bool ((aj aD bT).f1.f0))).setCell ⟨cO,2,none⟩ (.slice lA ((aj aD bT).f1.f1).length lB)).setCell ⟨cO,3,none⟩ (.string ((aj aD bT).f1.f2.f0))).setCell ⟨cO,4,none⟩ (.string ((aj aD bT).f1.f2.f1))).setCell ⟨cO,5,none⟩ (.bool ((aj aD bT).f1.f2.f2))).setCell ⟨cO,6,none⟩ (.slice mZ ((aj aD bT).f2).length ng)).setCell ⟨cO,7,none⟩ (.slice nM ((aj aD bT).f3).length nN)).setCell ⟨cO,8,none⟩ (.int .i64 ((aj aD bT).f4))).heap[cO]? =some (.cells #[.int .i64 ((aj aD bT).f0),.bool ((aj aD bT).f1.f0),.slice lA ((aj aD bT).f1.f1).length lB,.string ((aj aD bT).f1.f2.f0),.string ((aj aD bT).f1.f2.f1),.bool ((aj aD bT).f1.f2.f2),.slice mZ ((aj aD bT).f2).length ng,.slice nM ((aj aD bT).f3).length nN,.int .i64 ((aj aD bT).f4)] 34 (0,0))):=⟨by refine aZ (cs:=#[.int .i64 ((aj aD bT).f0),.bool ((aj aD bT).f1.f0),.slice lA ((aj aD bT).f1.f1).length lB,.string ((aj aD bT).f1.f2.f0),.string ((aj aD bT).f1.f2.f1),.bool ((aj aD bT).f1.f2.f2),.slice mZ ((aj aD bT).f2).length ng,.slice nM ((aj aD bT).f3).length nN,.int .i64 0]) ?_ 8 _ rfl;refine aZ (cs:=#[.int .i64 ((aj aD bT).f0),.bool ((aj aD bT).f1.f0),.slice lA ((aj aD bT).f1.f1).length lB,.string ((aj aD bT).f1.f2.f0),.string ((aj aD bT).f1.f2.f1),.bool ((aj aD bT).f1.f2.f2),.slice mZ ((aj aD bT).f2).length ng,.slice none 0 0,.int .i64 0]) ?_ 7 _ rfl;refine aZ (cs:=#[.int .i64 ((aj aD bT).f0),.bool ((aj aD bT).f1.f0),.slice lA ((aj aD bT).f1.f1).length lB,.string ((aj aD bT).f1.f2.f0),.string ((aj aD bT).f1.f2.f1),.bool ((aj aD bT).f1.f2.f2),.slice none 0 0,.slice none 0 0,.int .i64 0]) ?_ 6 _ rfl;refine aZ (cs:=#[.int .i64 ((aj aD bT).f0),.bool ((aj aD bT).f1.f0),.slice lA ((aj aD bT).f1.f1).length lB,.string ((aj aD bT).f1.f2.f0),.string ((aj aD bT).f1.f2.f1),.bool false,.slice none 0 0,.slice none 0 0,.int .i64 0]) ?_ 5 _ rfl;refine aZ (cs:=#[.int .i64 ((aj aD bT).f0),.bool ((aj aD bT).f1.f0),.slice lA ((aj aD bT).f1.f1).length lB,.string ((aj aD bT).f1.f2.f0),.string (⟨#[]⟩:ByteArray),.bool false,.slice none 0 0,.slice none 0 0,.int .i64 0]) ?_ 4 _ rfl;refine aZ (cs:=#[.int .i64 ((aj aD bT).f0),.bool ((aj aD bT).f1.f0),.slice lA ((aj aD bT).f1.f1).length lB,.string (⟨#[]⟩:ByteArray),.string (⟨#[]⟩:ByteArray),.bool false,.slice none 0 0,.slice none 0 0,.int .i64 0]) ?_ 3 _ rfl;refine aZ (cs:=#[.int .i64 ((aj aD bT).f0),.bool ((aj aD bT).f1.f0),.slice none 0 0,.string (⟨#[]⟩:ByteArray),.string (⟨#[]⟩:ByteArray),.bool false,.slice none 0 0,.slice none 0 0,.int .i64 0]) ?_ 2 _ rfl;refine aZ (cs:=#[.int .i64 ((aj aD bT).f0),.bool false,.slice none 0 0,.string (⟨#[]⟩:ByteArray),.string (⟨#[]⟩:ByteArray),.bool false,.slice none 0 0,.slice none 0 0,.int .i64 0]) ?_ 1 _ rfl;refine aZ (cs:=#[.int .i64 0,.bool false,.slice none 0 0,.string (⟨#[]⟩:ByteArray),.string (⟨#[]⟩:ByteArray),.bool false,.slice none 0 0,.slice none 0 0,.int .i64 0]) ?_ 0 _ rfl;exact eD.out⟩
    have LU:ah (Below w.heap.size w (((((((((tC.setCell ⟨cO,0,none⟩ (.int .i64 ((aj aD bT).f0))).setCell ⟨cO,1,none⟩ (.bool ((aj aD bT).f1.f0))).setCell ⟨cO,2,none⟩ (.slice lA ((aj aD bT).f1.f1).length lB)).setCell ⟨cO,3,none⟩ (.string ((aj aD bT).f1.f2.f0))).setCell ⟨cO,4,none⟩ (.string ((aj aD bT).f1.f2.f1))).setCell ⟨cO,5,none⟩ (.bool ((aj aD bT).f1.f2.f2))).setCell ⟨cO,6,none⟩ (.slice mZ ((aj aD bT).f2).length ng)).setCell ⟨cO,7,none⟩ (.slice nM ((aj aD bT).f3).length nN)).setCell ⟨cO,8,none⟩ (.int .i64 ((aj aD bT).f4)))):=⟨by repeat ((with_reducible first|exact HB.out|refine cG ?_ agu.out))⟩
    generalize (((((((((tC.setCell ⟨cO,0,none⟩ (.int .i64 ((aj aD bT).f0))).setCell ⟨cO,1,none⟩ (.bool ((aj aD bT).f1.f0))).setCell ⟨cO,2,none⟩ (.slice lA ((aj aD bT).f1.f1).length lB)).setCell ⟨cO,3,none⟩ (.string ((aj aD bT).f1.f2.f0))).setCell ⟨cO,4,none⟩ (.string ((aj aD bT).f1.f2.f1))).setCell ⟨cO,5,none⟩ (.bool ((aj aD bT).f1.f2.f2))).setCell ⟨cO,6,none⟩ (.slice mZ ((aj aD bT).f2).length ng)).setCell ⟨cO,7,none⟩ (.slice nM ((aj aD bT).f3).length nN)).setCell ⟨cO,8,none⟩ (.int .i64 ((aj aD bT).f4)))=QC at jT jU mO EK JC LU ⊢
    have fO:=jT
    have kO:=jU
    have mF:=mO
    have iR:=EK
    have eD:=JC
    have HB:=LU
    clear jT jU mO EK JC LU
    have jT:=ah.mk (Kd.SI fO.out)
    have jU:=ah.mk (iw kO.out)
    have mO:=ah.mk (iw mF.out)
    have EK:=ah.mk (iw iR.out)
    have JC:=ah.mk (iw eD.out)
    have LU:=ah.mk (fW HB.out)
    clear fO
    clear kO
    clear mF
    clear iR
    clear eD
    clear HB
    have fO:=jT
    have kO:=jU
    have mF:=mO
    have iR:=EK
    have eD:=JC
    have HB:=LU
    clear jT jU mO EK JC LU
    refine kK (n:=8) (S:=fun w'=>w'.cell? ⟨nU,0,none⟩=some (.int .i64 bf)∧w'.cell? ⟨nU,1,none⟩=some (ke)∧w'.cell? ⟨cO,0,none⟩=some (.int .i64 ((aj aD bT).f0))∧w'.cell? ⟨cO,1,none⟩=some (.bool ((aj aD bT).f1.f0))∧w'.cell? ⟨cO,2,none⟩=some (.slice lA ((aj aD bT).f1.f1).length lB)∧w'.cell? ⟨cO,3,none⟩=some (.string ((aj aD bT).f1.f2.f0))∧w'.cell? ⟨cO,4,none⟩=some (.string ((aj aD bT).f1.f2.f1))∧w'.cell? ⟨cO,5,none⟩=some (.bool ((aj aD bT).f1.f2.f2))∧w'.cell? ⟨cO,6,none⟩=some (.slice mZ ((aj aD bT).f2).length ng)∧w'.cell? ⟨cO,7,none⟩=some (.slice nM ((aj aD bT).f3).length nN)∧w'.cell? ⟨cO,8,none⟩=some (.int .i64 ((aj aD bT).f4))) (ds:=[7]) #[false,false,false,false,false,false,false,false] aq (by rfl) (by rfl) ⟨(af iR.out 0).trans rfl,(af iR.out 1).trans rfl,(af eD.out 0).trans rfl,(af eD.out 1).trans rfl,(af eD.out 2).trans rfl,(af eD.out 3).trans rfl,(af eD.out 4).trans rfl,(af eD.out 5).trans rfl,(af eD.out 6).trans rfl,(af eD.out 7).trans rfl,(af eD.out 8).trans rfl⟩ (fun hHeld=>?_);refine kB cy.aw2 cy.ago (fun dc q8=>?_)
    generalize QC.drew=UC at fO kO mF iR eD HB hHeld ⊢
    refine aN (i:=0) (N:=some 16) #[true,false,false,false,false,false,false,false] rfl rfl (bg dc.out aq) (fun _ _ _ h=>h) (Or.inl ⟨by rfl,cD⟩) rfl ?_
    refine fN (i:=1) (N:=some 17) #[true,true,false,false,false,false,false,false] rfl rfl (eU dc.out q8.out aq) (fun _ _ _ h=>h) (Or.inl ⟨by rfl,MX⟩) hHeld rfl ?_
    refine fN (i:=2) (N:=some 18) #[true,true,true,false,false,false,false,false] rfl rfl (eU dc.out q8.out aq) (fun _ _ _ h=>h) (Or.inl ⟨by rfl,MX⟩) hHeld rfl ?_
    refine nL (i:=3) (N:=some 19) #[true,true,true,true,false,false,false,false] rfl rfl (jJ dc.out aq) bB (fun K hK=>?_)
    refine lg Tryz.func72 aq rfl #[.agg #[.int .i64 ((aj aD bT).f0),.bool ((aj aD bT).f1.f0),.slice lA ((aj aD bT).f1.f1).length lB,.string ((aj aD bT).f1.f2.f0),.string ((aj aD bT).f1.f2.f1),.bool ((aj aD bT).f1.f2.f2),.slice mZ ((aj aD bT).f2).length ng,.slice nM ((aj aD bT).f3).length nN,.int .i64 ((aj aD bT).f4)]] (by rfl) rfl rfl dI ?_
    with_reducible refine (iz.calls ((aj aD bT).f0) ((aj aD bT).f1.f0) _ _ ((aj aD bT).f1.f1) ((aj aD bT).f1.f2.f0) ((aj aD bT).f1.f2.f1) ((aj aD bT).f1.f2.f2) _ _ ((aj aD bT).f2) _ _ ((aj aD bT).f3) ((aj aD bT).f4) t117 t118 t119 t122 t123 t124 t125 t128 t131 _ ?bk ?bM ?cQ ?fk ?gf ?gh A14.out).mono ?_
    (case bk=>repeat (exact (Kd.bD Yq.out HB.out)))
    (case bM=>exact Yr.out)
    (case cQ=>repeat (exact (Kd.bD Yt.out HB.out)))
    (case fk=>exact Yu.out)
    (case gf=>repeat (exact (Kd.bD Yv.out HB.out)))
    (case gh=>exact Yw.out)
    rintro e rG ⟨aCL,aCM,aCN,rfl,ho0,EZ,EA,hb⟩
    refine ⟨_,rfl,?_⟩
    have jT:=ah.mk (Kd.fB (Kd.jK (Kd.jK (Kd.jK (Kd.yE (by exact fO.out) hb) (Kd.fV ho0)) (Kd.fV EZ)) (Kd.fV EA)) (fun _ h_ =>h_.1))
    have jU:=ah.mk (Kd.dW ho0 (cg aJ))
    have mO:=ah.mk (Kd.dW EZ (cg aJ))
    have EK:=ah.mk (Kd.dW EA (cg aJ))
    have JC:=ah.mk (az (g:=qy) (o:= .cells #[.int .i64 bf,.slice (some TB) aD.length gJ] 40 (0,0)) yt hb)
    have LU:=ah.mk (az (g:=p8) (o:= .cells #[.int .i64 0,.slice none 0 0] 40 (0,0)) rB hb)
    have n6_ :=ah.mk (az (g:=nU) (o:= .cells #[.int .i64 bf,ke] 40 (0,0)) (by exact iR.out) hb)
    have n7_ :=ah.mk (az (g:=cO) (o:= .cells #[.int .i64 ((aj aD bT).f0),.bool ((aj aD bT).f1.f0),.slice lA ((aj aD bT).f1.f1).length lB,.string ((aj aD bT).f1.f2.f0),.string ((aj aD bT).f1.f2.f1),.bool ((aj aD bT).f1.f2.f2),.slice mZ ((aj aD bT).f2).length ng,.slice nM ((aj aD bT).f3).length nN,.int .i64 ((aj aD bT).f4)] 34 (0,0)) (by exact eD.out) hb)
    have n8_ :=ah.mk (ay aJ hb)
    clear fO
    clear kO
    clear mF
    clear iR
    clear eD
    clear HB
    have fO:=jT
    have OM:=jU
    have OO:=mO
    have OP:=EK
    have kO:=JC
    have mF:=LU
    have iR:=n6_
    have eD:=n7_
    have HB:=n8_
    clear jT jU mO EK JC LU n6_ n7_ n8_
    obtain ⟨abT,abU,abV⟩:=Kd.dh OM.out
    (subst abV)
    obtain ⟨agv,agw,aw4⟩:=Kd.dh OO.out
    (subst aw4)
    obtain ⟨agx,agy,aw5⟩:=Kd.dh OP.out
    (subst aw5)
    refine hK.out _ _ ⟨(af iR.out 0).trans rfl,(af iR.out 1).trans rfl,(af eD.out 0).trans rfl,(af eD.out 1).trans rfl,(af eD.out 2).trans rfl,(af eD.out 3).trans rfl,(af eD.out 4).trans rfl,(af eD.out 5).trans rfl,(af eD.out 6).trans rfl,(af eD.out 7).trans rfl,(af eD.out 8).trans rfl⟩ (fun hHeld=>?_)
    clear hK K
    refine jW (a':=?_) ?_ ?_
    rotate_left
    ·show Act.put _ (some 19) _=_
     simp only [Act.put,List.setIfInBounds_toArray,List.set_cons_zero,List.set_cons_succ,aU,aV]
     rfl
    refine nL (i:=4) (N:=some 20) #[true,true,true,true,true,false,false,false] rfl rfl (jJ dc.out aq) bB (fun K hK=>?_)
    refine SF (w1:=?_) (v:=?_) (by rfl) rfl ?_ ?_
    rotate_left 2
    ·go_simp
     constructor
     ·rfl
     ·rfl
    refine hK.out _ _ ⟨(af (gG iR.out _) 0).trans rfl,(af (gG iR.out _) 1).trans rfl,(af (gG eD.out _) 0).trans rfl,(af (gG eD.out _) 1).trans rfl,(af (gG eD.out _) 2).trans rfl,(af (gG eD.out _) 3).trans rfl,(af (gG eD.out _) 4).trans rfl,(af (gG eD.out _) 5).trans rfl,(af (gG eD.out _) 6).trans rfl,(af (gG eD.out _) 7).trans rfl,(af (gG eD.out _) 8).trans rfl⟩ (fun hHeld=>?_)
    clear hK K
    refine jW (a':=?_) ?_ ?_
    rotate_left
    ·show Act.put _ (some 20) _=_
     simp only [Act.put,List.setIfInBounds_toArray,List.set_cons_zero,List.set_cons_succ,aU,aV]
     rfl
    refine nL (i:=5) (N:=some 21) #[true,true,true,true,true,true,false,false] rfl rfl (jJ dc.out aq) bB (fun K hK=>?_)
    refine Kd.xx E4 (w0:=w) w.heap.size (by rfl) (.tmp 17) (.tmp 20) 38 34 (.agg #[(.int .i64 0),(.bool false),(.slice none 0 0),(.string ⟨#[]⟩),(.string ⟨#[]⟩),(.bool false),(.slice none 0 0),(.slice none 0 0),(.int .i64 0)]) 136 rfl Tryz.underlying38 abe rfl bB aA ke nV (⟨t117,(⟨t118,t119,(⟨t122,t123,t124⟩:E2)⟩:Rz),t125,t128,t131⟩:o8) [.int .i64 t117,.bool t118,.slice abT t119.length abU,.string t122,.string t123,.bool t124,.slice agv t125.length agw,.slice agx t128.length agy,.int .i64 t131] (fun k_ =>k_≠cO) (fun k_ =>some k_=(.slice abT t119.length abU:Value).ownBlock∨some k_=(.slice agv t125.length agw:Value).ownBlock∨some k_=(.slice agx t128.length agy:Value).ownBlock) rfl rfl ?aP (fun k_ hk_ =>hk_.elim (fun h_ =>((Kd.dH (ok':=fun k_ =>((fun k_ =>k_≠cO)) k_∧some k_≠(ke:Value).ownBlock) (Kd.dD (Kd.td (OM.out) (Kd.wO fO.out) bB) eD.out bB) (fun k_ hk=>⟨hk.2,hk.1.2⟩))).1 k_ h_.symm) (fun h_ =>h_.elim (fun h_ =>((Kd.dH (ok':=fun k_ =>((fun k_ =>k_≠cO)) k_∧some k_≠(ke:Value).ownBlock) (Kd.dD (Kd.td (OO.out) (Kd.wO fO.out) bB) eD.out bB) (fun k_ hk=>⟨hk.2,hk.1.2⟩))).1 k_ h_.symm) (fun h_ =>((Kd.dH (ok':=fun k_ =>((fun k_ =>k_≠cO)) k_∧some k_≠(ke:Value).ownBlock) (Kd.dD (Kd.td (OP.out) (Kd.wO fO.out) bB) eD.out bB) (fun k_ hk=>⟨hk.2,hk.1.2⟩))).1 k_ h_.symm))) ?aF ?aO ?aB ?aS ?aL ?_
    (case aP=>exact Cb _ _ _ (⟨t117,(⟨t118,t119,(⟨t122,t123,t124⟩:E2)⟩:Rz),t125,t128,t131⟩:o8) (Kd.dH (Kd.yD rfl (Kd.dH (ok':=fun k_ =>((fun k_ =>k_≠cO)) k_∧some k_≠(ke:Value).ownBlock) (Kd.dD (Kd.td (OM.out) (Kd.wO fO.out) bB) eD.out bB) (fun k_ hk=>⟨hk.2,hk.1.2⟩))) (fun _ h_ =>Or.inl h_)) (Kd.dH (Kd.yD rfl (Kd.dH (ok':=fun k_ =>((fun k_ =>k_≠cO)) k_∧some k_≠(ke:Value).ownBlock) (Kd.dD (Kd.td (OO.out) (Kd.wO fO.out) bB) eD.out bB) (fun k_ hk=>⟨hk.2,hk.1.2⟩))) (fun _ h_ =>Or.inr (Or.inl h_))) (Kd.dH (Kd.yD rfl (Kd.dH (ok':=fun k_ =>((fun k_ =>k_≠cO)) k_∧some k_≠(ke:Value).ownBlock) (Kd.dD (Kd.td (OP.out) (Kd.wO fO.out) bB) eD.out bB) (fun k_ hk=>⟨hk.2,hk.1.2⟩))) (fun _ h_ =>Or.inr (Or.inr (h_)))))
    (case aB=>exact aJ)
    (case aF=>exact (fun k_ hk=>Kd.aa5 (g:=cO) (o:= .cells #[.int .i64 ((aj aD bT).f0),.bool ((aj aD bT).f1.f0),.slice lA ((aj aD bT).f1.f1).length lB,.string ((aj aD bT).f1.f2.f0),.string ((aj aD bT).f1.f2.f1),.bool ((aj aD bT).f1.f2.f2),.slice mZ ((aj aD bT).f2).length ng,.slice nM ((aj aD bT).f3).length nN,.int .i64 ((aj aD bT).f4)] 34 (0,0)) (by exact eD.out) k_ hk))
    (case aO=>exact (by exact Kd.fB fO.out (fun k_ hk=>⟨hk.1.1.1,fun e_ =>e_.elim (fun h_ =>hk.1.1.2 h_) (fun h_ =>h_.elim (fun h_ =>hk.1.2 h_) (fun h_ =>hk.2 h_))⟩)))
    (case aS=>exact (cg aJ))
    (case aL=>have:=ags.out;omega)
    intro aCO xY ho hb hg hat
    rw [← agt.out] at ho
    have jT:=ah.mk (fG (g:=qy) (o:= .cells #[.int .i64 bf,.slice (some TB) aD.length gJ] 40 (0,0)) yt hg (Kd.Lj fO.out kO.out bB))
    have jU:=ah.mk (fG (g:=p8) (o:= .cells #[.int .i64 0,.slice none 0 0] 40 (0,0)) rB hg (Kd.Lj fO.out mF.out bB))
    have mO:=ah.mk (fG (g:=nU) (o:= .cells #[.int .i64 bf,ke] 40 (0,0)) (by exact iR.out) hg (Kd.Lj fO.out iR.out bB))
    have EK:=ah.mk (fG (g:=cO) (o:= .cells #[.int .i64 ((aj aD bT).f0),.bool ((aj aD bT).f1.f0),.slice lA ((aj aD bT).f1.f1).length lB,.string ((aj aD bT).f1.f2.f0),.string ((aj aD bT).f1.f2.f1),.bool ((aj aD bT).f1.f2.f2),.slice mZ ((aj aD bT).f2).length ng,.slice nM ((aj aD bT).f3).length nN,.int .i64 ((aj aD bT).f4)] 34 (0,0)) (by exact eD.out) hg (Kd.aba fO.out (fun _ hk=>hk.1.1.1)))
    have JC:=ah.mk (hb)
    have LU:=ah.mk (ho)
    clear kO
    clear mF
    clear iR
    clear eD
    clear HB
    clear fO
    clear OM
    clear OO
    clear OP
    have kO:=jT
    have mF:=jU
    have iR:=mO
    have eD:=EK
    have HB:=JC
    have aax:=LU
    clear jT jU mO EK JC LU
    clear ho hb hg hat
    obtain ⟨Yx,Yy,aci⟩:=Kd.iF aax.out
    (subst aci)
    refine hK.out _ _ ⟨(af iR.out 0).trans rfl,(af iR.out 1).trans rfl,(af eD.out 0).trans rfl,(af eD.out 1).trans rfl,(af eD.out 2).trans rfl,(af eD.out 3).trans rfl,(af eD.out 4).trans rfl,(af eD.out 5).trans rfl,(af eD.out 6).trans rfl,(af eD.out 7).trans rfl,(af eD.out 8).trans rfl⟩ (fun hHeld=>?_)
    clear hK K
    refine jW (a':=?_) ?_ ?_
    rotate_left
    ·show Act.put _ (some 21) _=_
     simp only [Act.put,List.setIfInBounds_toArray,List.set_cons_zero,List.set_cons_succ,aU,aV]
     rfl
    refine aN (i:=6) (N:=some 22) #[true,true,true,true,true,true,true,false] rfl rfl (bg dc.out aq) (fun _ _ _ h=>h) (Or.inl ⟨by rfl,cD⟩) rfl ?_
    refine JO (i:=7) (N:=none) #[true,true,true,true,true,true,true,true] rfl rfl (jJ dc.out aq) bB (fun K hK=>?_)
    have aCP:xY.cell? ⟨nU,1,none⟩=some (ke):=(af iR.out 1).trans rfl
    have azC:=aa iR.out 1
    have apk:=qK.out
    have apl:=qL.out
    have apm:=Fb.out
    have apn:=Ap.out
    have apo:=Aq.out
    have apq:=lC.out
    refine JP (w1:=?_) (by rfl) rfl ?_ ?_
    rotate_left
    ·go_simp
     rfl
    refine hK.out _ _ ?_
    clear hK K
    refine nk (nD dc.out aq) ?_
    try go_wp2
    go_roundg k1
    case measure=>have:=qi.out;omega
    case rel=>exact ⟨(wrap64 (bT + 1)),(Yp),(.slice Yx Yp.length Yy),(by rfl),H',⟨lI⟩,⟨by exact Kd.fB (Kd.cB (p:=⟨nU,1,none⟩) (Kd.gA aax.out iR.out bB) (fun _ hk=>hk.2) (.slice Yx Yp.length Yy)) (fun _ hk=>trivial)⟩,⟨by refine aW ?_ qK.out _;exact kO.out⟩,⟨by refine aW ?_ qL.out _;exact mF.out⟩,⟨by refine aZ (cs:=#[.int .i64 bf,ke]) ?_ 1 _ rfl;exact iR.out⟩,⟨M0⟩⟩
   ·rw [if_neg c11] at H
    have DA:=decide_eq_false c11
    clear c11
    simp only [Option.some.injEq,Prod.mk.injEq] at H
    obtain ⟨rfl,rfl⟩:=H
    have aay:=Ap.out
    have aaz:=qK.out
    have azD:=Aq.out
    have azE:=qL.out
    have apr:wr.cell? ⟨nU,0,none⟩=some (.int .i64 bf):=(af iR.out 0).trans rfl
    have aps:wr.cell? ⟨nU,1,none⟩=some (ke):=(af iR.out 1).trans rfl
    have apt:=aa iR.out 0
    have apu:=aa iR.out 1
    have azF:=Fa.out
    have azG:=E9.out
    have Yz:wr.cell? ⟨p8,0,none⟩=some (.int .i64 0):=(af mF.out 0).trans rfl
    have YA:wr.cell? ⟨p8,1,none⟩=some (.slice none 0 0):=(af mF.out 1).trans rfl
    have YB:=aa mF.out 0
    have YC:=aa mF.out 1
    obtain ⟨Io,Ip,acj⟩:=Kd.iF fO.out
    subst acj
    go_wp2
    refine bodyPost_ret (results_cell_row rfl _ _ p8 40 #[.int .i64 bf,.slice Io nV.length Ip] (0,0) _ rfl (by refine aZ (cs:=#[.int .i64 bf,.slice none 0 0]) ?_ 1 _ rfl;refine aZ (cs:=#[.int .i64 0,.slice none 0 0]) ?_ 0 _ rfl;exact mF.out) Tryz.underlying40 rfl aq) rfl ?_
    exact ⟨_,by rfl,by exact Kd.fB (Kd.cB (p:=⟨p8,1,none⟩) (Kd.cB (p:=⟨p8,0,none⟩) (Kd.gA fO.out mF.out bB) (fun _ hk=>hk.2) (.int .i64 bf)) (fun _ hk=>hk.2) (.slice Io nV.length Ip)) (fun _ hk=>trivial),by repeat ((with_reducible first|exact HB.out|refine cG ?_ agp.out))⟩
end Go.Proofs.YtbjjaaodfbjkfaaGreatDoor.mN
