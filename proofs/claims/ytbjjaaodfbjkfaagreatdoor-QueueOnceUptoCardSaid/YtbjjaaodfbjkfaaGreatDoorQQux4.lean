import Derived.Test.YtbjjaaodfbjkfaaGreatDoorESlim
import Derived.Test.YtbjjaaodfbjkfaaGreatDoorEClone
set_option maxHeartbeats 8000000
set_option maxRecDepth 100000
namespace Go.Proofs.YtbjjaaodfbjkfaaGreatDoor.mU
open Go.RowKit Go.Proofs.YtbjjaaodfbjkfaaGreatDoor.yN Go.Proofs.ak.bR Go.Proofs.ak.dz Go.Proofs.ak.cZ
attribute [local go_sem] iR iT jW jX gW gX jh ji
set_option linter.unusedVariables false
set_option linter.unusedSimpArgs false
def iC.f (bg:Int) (bP:Bool) (cH:List ByteArray) (bD:ByteArray) (bI:ByteArray) (bU:Bool) (bL:List (jM)) (cN:List Int) (bW:Int):Option (Int×Bool×List ByteArray×ByteArray×ByteArray×Bool×(List (jM))×List Int×Int):=(fC.f cH).bind fun t103=>((eA.f bL).bind fun t106=>((gf.f cN).bind fun t109=>(some (bg,bP,t103,bD,bI,bU,t106,t109,bW))))
def iC.T1:Bool×List (List Nat×List Nat):=(true,[([],[]),([0],[0]),([1],[1]),([2],[2]),([],[]),([4],[4]),([5,3],[5]),([],[]),([7],[7]),([8,6],[8]),([0,1,2,3,4,5,7,8],[]),([10,0,1,2,3,4,5,7,8],[10]),([11,3,9,0,1,2,3,4,5,7,8],[3,11]),([0,1,2,3,4,5,6,7,8,10,11,12],[]),([13,6,12,0,1,2,3,4,5,6,7,8,10,11,12],[6,13]),([0,1,2,3,4,5,6,7,8,9,10,11,12,13,14],[]),([15,9,14,0,1,2,3,4,5,6,7,8,9,10,11,12,13,14],[9,15])])
def iC.B1:List Nat:=[0,1,3,7,0,16,63,0,128,511,447,1471,4095,8191,16383,32767,65535]
theorem iC.MK:pZ .any (opsOf Tryz.f72 1)=iC.T1:=by kernel_rfl
theorem iC.Ee:pT iC.T1.2 iC.B1=true:=by kernel_rfl
theorem iC.calls (bg:Int) (bP:Bool) (dS:Option Addr) (dU:Nat) (cH:List ByteArray) (bD:ByteArray) (bI:ByteArray) (bU:Bool) (cV:Option Addr) (cU:Nat) (bL:List (jM)) (dV:Option Addr) (dW:Nat) (cN:List Int) (bW:Int) (r1:Int) (r2:Bool) (r3:List ByteArray) (r4:ByteArray) (r5:ByteArray) (r6:Bool) (r7:List (jM)) (r8:List Int) (r9:Int) (w:World) (qy:Kd.C Kd.string w dS cH.length cH) (qz:cH.length≤dU) (mN:Kd.C sM w cV bL.length bL) (mY:bL.length≤cU) (qA:Kd.C (Kd.int .u8) w dV cN.length cN) (qB:cN.length≤dW) (h:iC.f bg bP cH bD bI bU bL cN bW=some (r1,r2,r3,r4,r5,r6,r7,r8,r9)):
 Calls Tryz.prog 72 #[.agg #[.int .i64 bg,.bool bP,.slice dS cH.length dU,.string bD,.string bI,.bool bU,.slice cV bL.length cU,.slice dV cN.length dW,.int .i64 bW]] w fun e w'=>∃ Zk RH v7_:Value,e= .returned (.agg #[.int .i64 r1,.bool r2,Zk,.string r4,.string r5,.bool r6,RH,v7_,.int .i64 r9])∧Kd.R Kd.string 9 w' w.heap.size (fun _ =>True) Zk r3∧Kd.R sM 37 w' w.heap.size (fun _ =>True) RH r7∧Kd.R (Kd.int .u8) 5 w' w.heap.size (fun _ =>True) v7_ r8∧Below w.heap.size w w':=by
 have BW:=Tryz.underlying34
 have mO:=ah.mk qy
 have mP:=ah.mk qz
 clear qy qz
 have lQ:=ah.mk mN
 have mF:=ah.mk mY
 clear mN mY
 have vY:=ah.mk qA
 have vZ:=ah.mk qB
 clear qA qB
 have HB:=ah.mk (Below.refl w.heap.size w)
 have H:((fC.f cH).bind fun t103=>((eA.f bL).bind fun t106=>((gf.f cN).bind fun t109=>(some (bg,bP,t103,bD,bI,bU,t106,t109,bW)))))=some (r1,r2,r3,r4,r5,r6,r7,r8,r9):=h
 clear h
 obtain ⟨t103,A2,H⟩:=bd_ H
 obtain ⟨t106,A3,H⟩:=bd_ H
 obtain ⟨t109,A4,H⟩:=bd_ H
 simp only [Option.some.injEq,Prod.mk.injEq] at H
 obtain ⟨rfl,rfl,rfl,rfl,rfl,rfl,rfl,rfl,rfl⟩:=H
 go_enter Tryz.func72,Tryz.ntmps72
 try go_wp2_with (first|((with_reducible refine bp (N:=1) rfl ?_);refine br ?hg (N:=1) ?hd (cs:=#[.int .i64 bg,.bool bP,.slice dS cH.length dU,.string bD,.string bI,.bool bU,.slice cV bL.length cU,.slice dV cN.length dW,.int .i64 bW]) (t:=34) ?hr ?_;(case hd=>rfl);(case hg=>rfl);(case hr=>(go_simp;done));intro jl hg w5 bG hb;have eu:=ah.mk (bG);have aAB:=ah.mk ((bF:w.heap.size≤jl));have ahC:=ah.mk ((bF:w.heap.size≤jl));replace HB:=ah.mk (ay aJ hb);clear hb bG hg)|((with_reducible refine bp (N:=2) rfl ?_);refine br ?hg (N:=2) ?hd (cs:=#[.int .i64 0,.bool false,.slice none 0 0,.string (⟨#[]⟩:ByteArray),.string (⟨#[]⟩:ByteArray),.bool false,.slice none 0 0,.slice none 0 0,.int .i64 0]) (t:=34) ?hr ?_;(case hd=>rfl);(case hg=>rfl);(case hr=>(go_simp;done));intro gV hg w6 bG hb;have jB:=ah.mk (bG);have aAC:=ah.mk ((bF:w.heap.size≤gV));have ahD:=ah.mk ((bF:w.heap.size≤gV));replace HB:=ah.mk (ay aJ hb);have xM:=ah.mk ((by rw [hg];exact Nat.ne_of_lt (dQ wY):jl≠gV));have pM:=ah.mk ((by rw [hg];exact Nat.ne_of_gt (dQ wY):gV≠jl));replace eu:=ah.mk (aA wY hb);clear hb bG hg))
 have kj:=ah.mk (iA eu.out)
 have ko:=ah.mk (iA jB.out)
 have mV:=ah.mk (fS HB.out)
 clear eu
 clear jB
 clear HB
 have eu:=kj
 have jB:=ko
 have HB:=mV
 clear kj ko mV
 refine kS (n:=17) (S:=fun w'=>w'.cell? ⟨jl,0,none⟩=some (.int .i64 bg)∧w'.cell? ⟨jl,1,none⟩=some (.bool bP)∧w'.cell? ⟨jl,2,none⟩=some (.slice dS cH.length dU)∧w'.cell? ⟨jl,3,none⟩=some (.string bD)∧w'.cell? ⟨jl,4,none⟩=some (.string bI)∧w'.cell? ⟨jl,5,none⟩=some (.bool bU)∧w'.cell? ⟨jl,6,none⟩=some (.slice cV bL.length cU)∧w'.cell? ⟨jl,7,none⟩=some (.slice dV cN.length dW)∧w'.cell? ⟨jl,8,none⟩=some (.int .i64 bW)) (ds:=[12,14,16]) #[false,false,false,false,false,false,false,false,false,false,false,false,false,false,false,false,false] aq (by rfl) (by rfl) ⟨(af eu.out 0).trans rfl,(af eu.out 1).trans rfl,(af eu.out 2).trans rfl,(af eu.out 3).trans rfl,(af eu.out 4).trans rfl,(af eu.out 5).trans rfl,(af eu.out 6).trans rfl,(af eu.out 7).trans rfl,(af eu.out 8).trans rfl⟩ (fun hHeld=>?_);refine kL iC.MK iC.Ee (fun dh rq=>?_)
 generalize w6.drew=w7 at eu jB HB hHeld ⊢
 refine aN (i:=0) (N:=some 3) #[true,false,false,false,false,false,false,false,false,false,false,false,false,false,false,false,false] rfl rfl (bf dh.out aq) (fun _ _ _ h=>h) (Or.inl ⟨by rfl,cD⟩) rfl ?_
 refine aN (i:=1) (N:=some 4) #[true,true,false,false,false,false,false,false,false,false,false,false,false,false,false,false,false] rfl rfl (bf dh.out aq) (fun _ _ _ h=>h) (Or.inl ⟨by rfl,cD⟩) rfl ?_
 refine aN (i:=4) (N:=some 7) #[true,true,false,false,true,false,false,false,false,false,false,false,false,false,false,false,false] rfl rfl (bf dh.out aq) (fun _ _ _ h=>h) (Or.inl ⟨by rfl,cD⟩) rfl ?_
 refine aN (i:=7) (N:=some 10) #[true,true,false,false,true,false,false,true,false,false,false,false,false,false,false,false,false] rfl rfl (bf dh.out aq) (fun _ _ _ h=>h) (Or.inl ⟨by rfl,cD⟩) rfl ?_
 refine fL (i:=2) (N:=some 5) #[true,true,true,false,true,false,false,true,false,false,false,false,false,false,false,false,false] rfl rfl (eV dh.out rq.out aq) (fun _ _ _ h=>h) (Or.inl ⟨by rfl,pK⟩) hHeld rfl ?_
 refine fL (i:=5) (N:=some 8) #[true,true,true,false,true,true,false,true,false,false,false,false,false,false,false,false,false] rfl rfl (eV dh.out rq.out aq) (fun _ _ _ h=>h) (Or.inl ⟨by rfl,pK⟩) hHeld rfl ?_
 refine fL (i:=8) (N:=some 11) #[true,true,true,false,true,true,false,true,true,false,false,false,false,false,false,false,false] rfl rfl (eV dh.out rq.out aq) (fun _ _ _ h=>h) (Or.inl ⟨by rfl,pK⟩) hHeld rfl ?_
 refine nP (i:=3) (N:=some 6) #[true,true,true,true,true,true,false,true,true,false,false,false,false,false,false,false,false] rfl rfl (jU dh.out aq) bC (fun K hK=>?_)
 refine lF Tryz.func119 aq rfl #[.slice dS cH.length dU] (by rfl) rfl rfl dK ?_
 with_reducible refine (fC.calls _ _ cH t103 _ ?bn ?bN A2.out).mono ?_
 (case bn=>repeat (exact (Kd.bQ mO.out HB.out)))
 (case bN=>exact mP.out)
 rintro e w8 ⟨aEc,rfl,ho0,hb⟩
 refine ⟨_,rfl,?_⟩
 have kj:=ah.mk (Kd.dX ho0 (b7 aJ))
 have ko:=ah.mk (aA (g:=jl) (o:= .cells #[.int .i64 bg,.bool bP,.slice dS cH.length dU,.string bD,.string bI,.bool bU,.slice cV bL.length cU,.slice dV cN.length dW,.int .i64 bW] 34 (0,0)) wY hb)
 have mV:=ah.mk (aA (g:=gV) (o:= .cells #[.int .i64 0,.bool false,.slice none 0 0,.string (⟨#[]⟩:ByteArray),.string (⟨#[]⟩:ByteArray),.bool false,.slice none 0 0,.slice none 0 0,.int .i64 0] 34 (0,0)) (by exact jB.out) hb)
 have E5:=ah.mk (ay aJ hb)
 clear eu
 clear jB
 clear HB
 have BI:=kj
 have eu:=ko
 have jB:=mV
 have HB:=E5
 clear kj ko mV E5
 refine hK.out _ _ ⟨(af eu.out 0).trans rfl,(af eu.out 1).trans rfl,(af eu.out 2).trans rfl,(af eu.out 3).trans rfl,(af eu.out 4).trans rfl,(af eu.out 5).trans rfl,(af eu.out 6).trans rfl,(af eu.out 7).trans rfl,(af eu.out 8).trans rfl⟩ (fun hHeld=>?_)
 clear hK K
 refine ku (a':=?_) ?_ ?_
 rotate_left
 ·show Act.put _ (some 6) _=_
  simp only [Act.put,List.setIfInBounds_toArray,List.set_cons_zero,List.set_cons_succ,aV,aW]
  rfl
 refine aN (i:=10) (N:=some 13) #[true,true,true,true,true,true,false,true,true,false,true,false,false,false,false,false,false] rfl rfl (bf dh.out aq) (fun _ _ _ h=>h) (Or.inl ⟨by rfl,cD⟩) rfl ?_
 refine aN (i:=11) (N:=some 14) #[true,true,true,true,true,true,false,true,true,false,true,true,false,false,false,false,false] rfl rfl (bf dh.out aq) (fun _ _ _ h=>h) (Or.inl ⟨by rfl,cD⟩) rfl ?_
 refine nP (i:=6) (N:=some 9) #[true,true,true,true,true,true,true,true,true,false,true,true,false,false,false,false,false] rfl rfl (jU dh.out aq) bC (fun K hK=>?_)
 refine lF Tryz.func120 aq rfl #[.slice cV bL.length cU] (by rfl) rfl rfl dK ?_
 with_reducible refine (eA.calls _ _ bL t106 _ ?bn ?bN A3.out).mono ?_
 (case bn=>repeat (exact (Kd.bQ lQ.out HB.out)))
 (case bN=>exact mF.out)
 rintro e w9 ⟨v107,rfl,ho0,hb⟩
 refine ⟨_,rfl,?_⟩
 have kj:=ah.mk (Kd.bH (by exact BI.out) hb)
 have ko:=ah.mk (Kd.dX ho0 (b7 aJ))
 have mV:=ah.mk (aA (g:=jl) (o:= .cells #[.int .i64 bg,.bool bP,.slice dS cH.length dU,.string bD,.string bI,.bool bU,.slice cV bL.length cU,.slice dV cN.length dW,.int .i64 bW] 34 (0,0)) wY hb)
 have E5:=ah.mk (aA (g:=gV) (o:= .cells #[.int .i64 0,.bool false,.slice none 0 0,.string (⟨#[]⟩:ByteArray),.string (⟨#[]⟩:ByteArray),.bool false,.slice none 0 0,.slice none 0 0,.int .i64 0] 34 (0,0)) (by exact jB.out) hb)
 have Km:=ah.mk (ay aJ hb)
 clear BI
 clear eu
 clear jB
 clear HB
 have BI:=kj
 have KY:=ko
 have eu:=mV
 have jB:=E5
 have HB:=Km
 clear kj ko mV E5 Km
 refine hK.out _ _ ⟨(af eu.out 0).trans rfl,(af eu.out 1).trans rfl,(af eu.out 2).trans rfl,(af eu.out 3).trans rfl,(af eu.out 4).trans rfl,(af eu.out 5).trans rfl,(af eu.out 6).trans rfl,(af eu.out 7).trans rfl,(af eu.out 8).trans rfl⟩ (fun hHeld=>?_)
 clear hK K
 refine ku (a':=?_) ?_ ?_
 rotate_left
 ·show Act.put _ (some 9) _=_
  simp only [Act.put,List.setIfInBounds_toArray,List.set_cons_zero,List.set_cons_succ,aV,aW]
  rfl
 refine nP (i:=9) (N:=some 12) #[true,true,true,true,true,true,true,true,true,true,true,true,false,false,false,false,false] rfl rfl (jU dh.out aq) bC (fun K hK=>?_)
 refine lF Tryz.func121 aq rfl #[.slice dV cN.length dW] (by rfl) rfl rfl dK ?_
 with_reducible refine (gf.calls _ _ cN t109 _ ?bn ?bN A4.out).mono ?_
 (case bn=>repeat (exact (Kd.bQ vY.out HB.out)))
 (case bN=>exact vZ.out)
 rintro e pF ⟨aEd,rfl,ho0,hb⟩
 refine ⟨_,rfl,?_⟩
 have kj:=ah.mk (Kd.bH (by exact BI.out) hb)
 have ko:=ah.mk (Kd.bH (by exact KY.out) hb)
 have mV:=ah.mk (Kd.dX ho0 (b7 aJ))
 have E5:=ah.mk (aA (g:=jl) (o:= .cells #[.int .i64 bg,.bool bP,.slice dS cH.length dU,.string bD,.string bI,.bool bU,.slice cV bL.length cU,.slice dV cN.length dW,.int .i64 bW] 34 (0,0)) wY hb)
 have Km:=ah.mk (aA (g:=gV) (o:= .cells #[.int .i64 0,.bool false,.slice none 0 0,.string (⟨#[]⟩:ByteArray),.string (⟨#[]⟩:ByteArray),.bool false,.slice none 0 0,.slice none 0 0,.int .i64 0] 34 (0,0)) (by exact jB.out) hb)
 have ML:=ah.mk (ay aJ hb)
 clear BI
 clear KY
 clear eu
 clear jB
 clear HB
 have BI:=kj
 have KY:=ko
 have abu:=mV
 have eu:=E5
 have jB:=Km
 have HB:=ML
 clear kj ko mV E5 Km ML
 obtain ⟨yQ,yR,adz⟩:=Kd.dm BI.out
 (subst adz)
 obtain ⟨Ix,Iy,ayh⟩:=Kd.dm KY.out
 (subst ayh)
 obtain ⟨Hu,Hv,adf⟩:=Kd.dm abu.out
 (subst adf)
 refine hK.out _ _ ⟨(af eu.out 0).trans rfl,(af eu.out 1).trans rfl,(af eu.out 2).trans rfl,(af eu.out 3).trans rfl,(af eu.out 4).trans rfl,(af eu.out 5).trans rfl,(af eu.out 6).trans rfl,(af eu.out 7).trans rfl,(af eu.out 8).trans rfl⟩ (fun hHeld=>?_)
 clear hK K
 refine ku (a':=?_) ?_ ?_
 rotate_left
 ·show Act.put _ (some 12) _=_
  simp only [Act.put,List.setIfInBounds_toArray,List.set_cons_zero,List.set_cons_succ,aV,aW]
  rfl
 refine Kv (i:=12) (N:=none) #[true,true,true,true,true,true,true,true,true,true,true,true,true,false,false,false,false] rfl rfl (jU dh.out aq) bC (fun K hK=>?_)
 have aEe:pF.cell? ⟨jl,2,none⟩=some (.slice dS cH.length dU):=(af eu.out 2).trans rfl
 have aAD:=aa eu.out 2
 have aqc:=pM.out
 have aqd:=xM.out
 refine Kw (w1:=?_) (by rfl) rfl ?_ ?_
 rotate_left
 ·go_simp
  rfl
 refine hK.out _ _ ?_
 clear hK K
 refine aN (i:=13) (N:=some 15) #[true,true,true,true,true,true,true,true,true,true,true,true,true,true,false,false,false] rfl rfl (bf dh.out aq) (fun _ _ _ h=>h) (Or.inl ⟨by rfl,cD⟩) rfl ?_
 refine Kv (i:=14) (N:=none) #[true,true,true,true,true,true,true,true,true,true,true,true,true,true,true,false,false] rfl rfl (jU dh.out aq) bC (fun K hK=>?_)
 have aEf:pF.cell? ⟨jl,6,none⟩=some (.slice cV bL.length cU):=(af eu.out 6).trans rfl
 have aAE:=aa eu.out 6
 have aqe:=pM.out
 have aqf:=xM.out
 refine Kw (w1:=?_) (by rfl) rfl ?_ ?_
 rotate_left
 ·go_simp
  rfl
 refine hK.out _ _ ?_
 clear hK K
 refine aN (i:=15) (N:=some 16) #[true,true,true,true,true,true,true,true,true,true,true,true,true,true,true,true,false] rfl rfl (bf dh.out aq) (fun _ _ _ h=>h) (Or.inl ⟨by rfl,cD⟩) rfl ?_
 refine Kv (i:=16) (N:=none) #[true,true,true,true,true,true,true,true,true,true,true,true,true,true,true,true,true] rfl rfl (jU dh.out aq) bC (fun K hK=>?_)
 have aEg:pF.cell? ⟨jl,7,none⟩=some (.slice dV cN.length dW):=(af eu.out 7).trans rfl
 have aAF:=aa eu.out 7
 have aqg:=pM.out
 have aqh:=xM.out
 refine Kw (w1:=?_) (by rfl) rfl ?_ ?_
 rotate_left
 ·go_simp
  rfl
 refine hK.out _ _ ?_
 clear hK K
 refine nv (nJ dh.out aq) ?_
 have Uy:=xM.out
 have Uz:=pM.out
 have zD:pF.cell? ⟨jl,0,none⟩=some (.int .i64 bg):=(af eu.out 0).trans rfl
 have zE:pF.cell? ⟨jl,1,none⟩=some (.bool bP):=(af eu.out 1).trans rfl
 have C3:pF.cell? ⟨jl,2,none⟩=some (.slice dS cH.length dU):=(af eu.out 2).trans rfl
 have C4:pF.cell? ⟨jl,3,none⟩=some (.string bD):=(af eu.out 3).trans rfl
 have C5:pF.cell? ⟨jl,4,none⟩=some (.string bI):=(af eu.out 4).trans rfl
 have G5:pF.cell? ⟨jl,5,none⟩=some (.bool bU):=(af eu.out 5).trans rfl
 have Ol:pF.cell? ⟨jl,6,none⟩=some (.slice cV bL.length cU):=(af eu.out 6).trans rfl
 have Om:pF.cell? ⟨jl,7,none⟩=some (.slice dV cN.length dW):=(af eu.out 7).trans rfl
 have Oo:pF.cell? ⟨jl,8,none⟩=some (.int .i64 bW):=(af eu.out 8).trans rfl
 have zF:=aa eu.out 0
 have zG:=aa eu.out 1
 have C6:=aa eu.out 2
 have C7:=aa eu.out 3
 have C8:=aa eu.out 4
 have G6:=aa eu.out 5
 have Oq:=aa eu.out 6
 have Ot:=aa eu.out 7
 have Ou:=aa eu.out 8
 have Iz:pF.cell? ⟨gV,0,none⟩=some (.int .i64 0):=(af jB.out 0).trans rfl
 have IA:pF.cell? ⟨gV,1,none⟩=some (.bool false):=(af jB.out 1).trans rfl
 have IB:pF.cell? ⟨gV,2,none⟩=some (.slice none 0 0):=(af jB.out 2).trans rfl
 have IC:pF.cell? ⟨gV,3,none⟩=some (.string (⟨#[]⟩:ByteArray)):=(af jB.out 3).trans rfl
 have ID:pF.cell? ⟨gV,4,none⟩=some (.string (⟨#[]⟩:ByteArray)):=(af jB.out 4).trans rfl
 have IE:pF.cell? ⟨gV,5,none⟩=some (.bool false):=(af jB.out 5).trans rfl
 have IG:pF.cell? ⟨gV,6,none⟩=some (.slice none 0 0):=(af jB.out 6).trans rfl
 have II:pF.cell? ⟨gV,7,none⟩=some (.slice none 0 0):=(af jB.out 7).trans rfl
 have IJ:pF.cell? ⟨gV,8,none⟩=some (.int .i64 0):=(af jB.out 8).trans rfl
 have IK:=aa jB.out 0
 have IL:=aa jB.out 1
 have IM:=aa jB.out 2
 have IP:=aa jB.out 3
 have IQ:=aa jB.out 4
 have IU:=aa jB.out 5
 have IV:=aa jB.out 6
 have IW:=aa jB.out 7
 have IX:=aa jB.out 8
 try go_wp2
 refine bodyPost_ret (results_cell_row rfl _ _ gV 34 #[.int .i64 bg,.bool bP,.slice yQ t103.length yR,.string bD,.string bI,.bool bU,.slice Ix t106.length Iy,.slice Hu t109.length Hv,.int .i64 bW] (0,0) _ rfl (by refine aZ (cs:=#[.int .i64 bg,.bool bP,.slice yQ t103.length yR,.string bD,.string bI,.bool bU,.slice Ix t106.length Iy,.slice Hu t109.length Hv,.int .i64 0]) ?_ 8 _ rfl;refine aZ (cs:=#[.int .i64 bg,.bool bP,.slice yQ t103.length yR,.string bD,.string bI,.bool bU,.slice Ix t106.length Iy,.slice none 0 0,.int .i64 0]) ?_ 7 _ rfl;refine aZ (cs:=#[.int .i64 bg,.bool bP,.slice yQ t103.length yR,.string bD,.string bI,.bool bU,.slice none 0 0,.slice none 0 0,.int .i64 0]) ?_ 6 _ rfl;refine aZ (cs:=#[.int .i64 bg,.bool bP,.slice yQ t103.length yR,.string bD,.string bI,.bool false,.slice none 0 0,.slice none 0 0,.int .i64 0]) ?_ 5 _ rfl;refine aZ (cs:=#[.int .i64 bg,.bool bP,.slice yQ t103.length yR,.string bD,.string (⟨#[]⟩:ByteArray),.bool false,.slice none 0 0,.slice none 0 0,.int .i64 0]) ?_ 4 _ rfl;refine aZ (cs:=#[.int .i64 bg,.bool bP,.slice yQ t103.length yR,.string (⟨#[]⟩:ByteArray),.string (⟨#[]⟩:ByteArray),.bool false,.slice none 0 0,.slice none 0 0,.int .i64 0]) ?_ 3 _ rfl;refine aZ (cs:=#[.int .i64 bg,.bool bP,.slice none 0 0,.string (⟨#[]⟩:ByteArray),.string (⟨#[]⟩:ByteArray),.bool false,.slice none 0 0,.slice none 0 0,.int .i64 0]) ?_ 2 _ rfl;refine aZ (cs:=#[.int .i64 bg,.bool false,.slice none 0 0,.string (⟨#[]⟩:ByteArray),.string (⟨#[]⟩:ByteArray),.bool false,.slice none 0 0,.slice none 0 0,.int .i64 0]) ?_ 1 _ rfl;refine aZ (cs:=#[.int .i64 0,.bool false,.slice none 0 0,.string (⟨#[]⟩:ByteArray),.string (⟨#[]⟩:ByteArray),.bool false,.slice none 0 0,.slice none 0 0,.int .i64 0]) ?_ 0 _ rfl;refine aU ?_ pM.out _;refine aU ?_ pM.out _;refine aU ?_ pM.out _;exact jB.out) Tryz.underlying34 rfl aq) rfl ?_
 exact ⟨_,_,_,by rfl,by exact Kd.dH (Kd.bw (p:=⟨gV,8,none⟩) (Kd.bw (p:=⟨gV,7,none⟩) (Kd.bw (p:=⟨gV,6,none⟩) (Kd.bw (p:=⟨gV,5,none⟩) (Kd.bw (p:=⟨gV,4,none⟩) (Kd.bw (p:=⟨gV,3,none⟩) (Kd.bw (p:=⟨gV,2,none⟩) (Kd.bw (p:=⟨gV,1,none⟩) (Kd.bw (p:=⟨gV,0,none⟩) (Kd.bw (p:=⟨jl,7,none⟩) (Kd.bw (p:=⟨jl,6,none⟩) (Kd.bw (p:=⟨jl,2,none⟩) (Kd.dD (Kd.dD BI.out eu.out bC) jB.out bC) (fun _ hk=>hk.1.2) (.slice yQ t103.length yR)) (fun _ hk=>hk.1.2) (.slice Ix t106.length Iy)) (fun _ hk=>hk.1.2) (.slice Hu t109.length Hv)) (fun _ hk=>hk.2) (.int .i64 bg)) (fun _ hk=>hk.2) (.bool bP)) (fun _ hk=>hk.2) (.slice yQ t103.length yR)) (fun _ hk=>hk.2) (.string bD)) (fun _ hk=>hk.2) (.string bI)) (fun _ hk=>hk.2) (.bool bU)) (fun _ hk=>hk.2) (.slice Ix t106.length Iy)) (fun _ hk=>hk.2) (.slice Hu t109.length Hv)) (fun _ hk=>hk.2) (.int .i64 bW)) (fun _ hk=>trivial),by exact Kd.dH (Kd.bw (p:=⟨gV,8,none⟩) (Kd.bw (p:=⟨gV,7,none⟩) (Kd.bw (p:=⟨gV,6,none⟩) (Kd.bw (p:=⟨gV,5,none⟩) (Kd.bw (p:=⟨gV,4,none⟩) (Kd.bw (p:=⟨gV,3,none⟩) (Kd.bw (p:=⟨gV,2,none⟩) (Kd.bw (p:=⟨gV,1,none⟩) (Kd.bw (p:=⟨gV,0,none⟩) (Kd.bw (p:=⟨jl,7,none⟩) (Kd.bw (p:=⟨jl,6,none⟩) (Kd.bw (p:=⟨jl,2,none⟩) (Kd.dD (Kd.dD KY.out eu.out bC) jB.out bC) (fun _ hk=>hk.1.2) (.slice yQ t103.length yR)) (fun _ hk=>hk.1.2) (.slice Ix t106.length Iy)) (fun _ hk=>hk.1.2) (.slice Hu t109.length Hv)) (fun _ hk=>hk.2) (.int .i64 bg)) (fun _ hk=>hk.2) (.bool bP)) (fun _ hk=>hk.2) (.slice yQ t103.length yR)) (fun _ hk=>hk.2) (.string bD)) (fun _ hk=>hk.2) (.string bI)) (fun _ hk=>hk.2) (.bool bU)) (fun _ hk=>hk.2) (.slice Ix t106.length Iy)) (fun _ hk=>hk.2) (.slice Hu t109.length Hv)) (fun _ hk=>hk.2) (.int .i64 bW)) (fun _ hk=>trivial),by exact Kd.dH (Kd.bw (p:=⟨gV,8,none⟩) (Kd.bw (p:=⟨gV,7,none⟩) (Kd.bw (p:=⟨gV,6,none⟩) (Kd.bw (p:=⟨gV,5,none⟩) (Kd.bw (p:=⟨gV,4,none⟩) (Kd.bw (p:=⟨gV,3,none⟩) (Kd.bw (p:=⟨gV,2,none⟩) (Kd.bw (p:=⟨gV,1,none⟩) (Kd.bw (p:=⟨gV,0,none⟩) (Kd.bw (p:=⟨jl,7,none⟩) (Kd.bw (p:=⟨jl,6,none⟩) (Kd.bw (p:=⟨jl,2,none⟩) (Kd.dD (Kd.dD abu.out eu.out bC) jB.out bC) (fun _ hk=>hk.1.2) (.slice yQ t103.length yR)) (fun _ hk=>hk.1.2) (.slice Ix t106.length Iy)) (fun _ hk=>hk.1.2) (.slice Hu t109.length Hv)) (fun _ hk=>hk.2) (.int .i64 bg)) (fun _ hk=>hk.2) (.bool bP)) (fun _ hk=>hk.2) (.slice yQ t103.length yR)) (fun _ hk=>hk.2) (.string bD)) (fun _ hk=>hk.2) (.string bI)) (fun _ hk=>hk.2) (.bool bU)) (fun _ hk=>hk.2) (.slice Ix t106.length Iy)) (fun _ hk=>hk.2) (.slice Hu t109.length Hv)) (fun _ hk=>hk.2) (.int .i64 bW)) (fun _ hk=>trivial),by repeat ((with_reducible first|exact HB.out|refine cC ?_ ahC.out|refine cC ?_ ahD.out))⟩
def cx.l0:Nat→List (pE)→Int→Int→Int→List (pE)→Option (Int×(List (pE)))
 | 0,_,_,_,_,_ =>none
 |k + 1,Dn,vM,ym,Pj,IY=>if ym < vM then (if 0≤ym then (if ym < (Dn.length:Int) then ((iC.f ((aj Dn ym).f0) ((aj Dn ym).f1.f0) ((aj Dn ym).f1.f1) ((aj Dn ym).f1.f2.f0) ((aj Dn ym).f1.f2.f1) ((aj Dn ym).f1.f2.f2) ((aj Dn ym).f2) ((aj Dn ym).f3) ((aj Dn ym).f4)).bind fun zL=>(if IY.length < 1034834473200 then (cx.l0 k Dn vM (wrap64 (ym + 1)) Pj (IY ++ [(⟨zL.1,(⟨zL.2.1,zL.2.2.1,(⟨zL.2.2.2.1,zL.2.2.2.2.1,zL.2.2.2.2.2.1⟩:Fu)⟩:SB),zL.2.2.2.2.2.2.1,zL.2.2.2.2.2.2.2.1,zL.2.2.2.2.2.2.2.2⟩:pE)])) else (none))) else (none)) else (none)) else (some (Pj,IY))
def cx.f (k:Nat) (bg:Int) (aI:List (pE)):Option (Int×(List (pE))):=cx.l0 k aI (aI.length:Int) 0 bg ([]:List (pE))
theorem cx.ey:∀ k,(∀ y0 y1 y2 y3 y4,eZ (cx.l0 k y0 y1 y2 y3 y4) (cx.l0 (k + 1) y0 y1 y2 y3 y4))
 | 0=>fun _ _ _ _ _ r h=>by simp [cx.l0] at h
 |k + 1=>by
  have mH:=cx.ey k
  ·intro y0 y1 y2 y3 y4
   unfold cx.l0
   repeat' (with_reducible first|exact mH _ _ _ _ _|exact eZ.refl _|refine eZ.ite ?_ ?_|refine eZ.bind ?_ (fun _ =>?_))
theorem cx.mono:∀ a0 a1 k,eZ (cx.f k a0 a1) (cx.f (k + 1) a0 a1):=by
 intro a0 a1 k
 have mH:=cx.ey k
 unfold cx.f
 repeat' (with_reducible exact mH _ _ _ _ _)
def cx.T5:Bool×List (List Nat×List Nat):=(true,[([],[]),([0],[0]),([],[]),([2],[2]),([3],[3]),([1,4,3],[1,4]),([0,1,2,3,4,5],[]),([6,5,5,0,1,2,3,4,5],[5,6])])
def cx.B5:List Nat:=[0,1,0,4,12,31,63,127]
theorem cx.ayi:pZ .any (opsOf Tryz.f57 5)=cx.T5:=by kernel_rfl
theorem cx.ahE:pT cx.T5.2 cx.B5=true:=by kernel_rfl
theorem cx.calls (k:Nat) (bg:Int) (jk:Option Addr) (ia:Nat) (aI:List (pE)) (r1:Int) (r2:List (pE)) (w:World) (nX:Kd.C Fw w jk aI.length aI) (nY:aI.length≤ia) (h:cx.f k bg aI=some (r1,r2)):
 Calls Tryz.prog 57 #[.agg #[.int .i64 bg,.slice jk aI.length ia]] w fun e w'=>∃ SE:Value,e= .returned (.agg #[.int .i64 r1,SE])∧Kd.S Fw 34 w' w.heap.size (fun _ =>True) SE r2∧Below w.heap.size w w':=by
 have RI:=Tryz.underlying40
 have BW:=Tryz.underlying34
 have rI:=ah.mk nX
 have Ea:=ah.mk nY
 clear nX nY
 have HB:=ah.mk (Below.refl w.heap.size w)
 have H:(cx.l0 k aI (aI.length:Int) 0 bg ([]:List (pE)))=some (r1,r2):=h
 clear h
 have H':=ah.mk H
 clear H
 go_enter Tryz.func57,Tryz.ntmps57
 go_wp2_with (first|((with_reducible refine bp (N:=1) rfl ?_);refine br ?hg (N:=1) ?hd (cs:=#[.int .i64 bg,.slice jk aI.length ia]) (t:=40) ?hr ?_;(case hd=>rfl);(case hg=>rfl);(case hr=>(go_simp;done));intro qD hg w2 bG hb;have kX:=ah.mk (bG);have aAG:=ah.mk ((bF:w.heap.size≤qD));have aAH:=ah.mk ((bF:w.heap.size≤qD));replace HB:=ah.mk (ay aJ hb);clear hb bG hg)|((with_reducible refine bp (N:=2) rfl ?_);refine br ?hg (N:=2) ?hd (cs:=#[.int .i64 0,.slice none 0 0]) (t:=40) ?hr ?_;(case hd=>rfl);(case hg=>rfl);(case hr=>(go_simp;done));intro qd hg w3 bG hb;have mK:=ah.mk (bG);have aAI:=ah.mk ((bF:w.heap.size≤qd));have ahF:=ah.mk ((bF:w.heap.size≤qd));replace HB:=ah.mk (ay aJ hb);have FA:=ah.mk ((Gr:qD≠qd));have FB:=ah.mk ((Gs:qd≠qD));replace kX:=ah.mk (aA ze hb);clear hb bG hg;have aEh:=FA.out;have aEi:=FB.out;have TZ:w3.cell? ⟨qD,0,none⟩=some (.int .i64 bg):=(af kX.out 0).trans rfl;have T4:w3.cell? ⟨qD,1,none⟩=some (.slice jk aI.length ia):=(af kX.out 1).trans rfl;have T6:=aa kX.out 0;have T7:=aa kX.out 1)|((with_reducible refine bp (N:=3) rfl ?_);refine br ?hg (N:=3) ?hd (cs:=#[.int .i64 0,.slice none 0 0]) (t:=40) ?hr ?_;(case hd=>rfl);(case hg=>rfl);(case hr=>(go_simp;done));intro nZ hg w6 bG hb;have iU:=ah.mk (bG);have aAJ:=ah.mk ((bF:w.heap.size≤nZ));have aff:=ah.mk ((bF:w.heap.size≤nZ));replace HB:=ah.mk (ay aJ hb);have qN:=ah.mk ((Gr:qD≠nZ));have AL:=ah.mk ((Gs:nZ≠qD));replace kX:=ah.mk (aA ze hb);have qO:=ah.mk ((by rw [hg];exact Nat.ne_of_lt (dQ rD):qd≠nZ));have AQ:=ah.mk ((by rw [hg];exact Nat.ne_of_gt (dQ rD):nZ≠qd));replace mK:=ah.mk (aA rD hb);clear hb bG hg;have ahG:=AL.out;have ahH:=qN.out;have aEj:=AQ.out;have aEk:=qO.out;have Ay:w6.cell? ⟨nZ,0,none⟩=some (.int .i64 0):=(af iU.out 0).trans rfl;have Az:w6.cell? ⟨nZ,1,none⟩=some (.slice none 0 0):=(af iU.out 1).trans rfl;have AA:=aa iU.out 0;have AB:=aa iU.out 1;have GS:w6.cell? ⟨qD,0,none⟩=some (.int .i64 bg):=(af kX.out 0).trans rfl;have GU:w6.cell? ⟨qD,1,none⟩=some (.slice jk aI.length ia):=(af kX.out 1).trans rfl;have GV:=aa kX.out 0;have GW:=aa kX.out 1))
 go_loopg [12] k (fun kq v12 w'=>∃ (bT:Int) (n7:List (pE)) (kE:Value),v12= .int .i64 bT∧ah (cx.l0 kq aI (aI.length:Int) bT bg n7=some (r1,r2))∧ah (kq≤k)∧ah (Kd.S Fw 34 w' w.heap.size (fun _ =>True) kE n7)∧ah (w'.heap[qD]? =some (.cells #[.int .i64 bg,(.slice jk aI.length ia)] 40 (0,0)))∧ah (w'.heap[qd]? =some (.cells #[.int .i64 0,(.slice none 0 0)] 40 (0,0)))∧ah (w'.heap[nZ]? =some (.cells #[.int .i64 bg,kE] 40 (0,0)))∧ah (Below w.heap.size w w'))
 case atStart=>exact ⟨(0),(([]:List (pE))),(.slice none 0 0),(by rfl),H',⟨Nat.le_refl _⟩,⟨by exact Kd.abe _ _ _ _ _⟩,⟨by refine aU ?_ qN.out _;refine aU ?_ qN.out _;exact kX.out⟩,⟨by refine aU ?_ qO.out _;refine aU ?_ qO.out _;exact mK.out⟩,⟨by refine aZ (cs:=#[.int .i64 bg,.slice none 0 0]) ?_ 1 _ rfl;refine aZ (cs:=#[.int .i64 0,.slice none 0 0]) ?_ 0 _ rfl;exact iU.out⟩,⟨NV⟩⟩
 case round=>
  clear H'
  obtain ⟨bT,n7,kE,rfl,HA,qi,fN,kX,mK,iU,HB⟩:=hrel
  cases gk with
  |zero=>exact absurd HA.out (by simp [cx.l0])
  |succ k1=>
   have H:=HA.out
   clear HA
   simp only [cx.l0] at H
   by_cases c11:bT < (aI.length:Int)
   ·rw [if_pos c11] at H
    have zI:=decide_eq_true c11
    clear c11
    obtain ⟨c12,H⟩:=lO H
    have Fx:=decide_eq_true c12
    clear c12
    obtain ⟨c13,H⟩:=lO H
    have D8:=decide_eq_true c13
    clear c13
    obtain ⟨⟨t117,t118,t119,t122,t123,t124,t125,t128,t131⟩,A14,H⟩:=bd_ H
    (try dsimp only at H)
    obtain ⟨c15,H⟩:=lO H
    have ahI:=ah.mk c15
    clear c15
    obtain ⟨Zl,UA⟩:∃ y_:List (pE),y_=(n7 ++ [(⟨t117,(⟨t118,t119,(⟨t122,t123,t124⟩:Fu)⟩:SB),t125,t128,t131⟩:pE)]):=⟨_,rfl⟩
    replace H:(cx.l0 k1 aI (aI.length:Int) (wrap64 (bT + 1)) bg Zl)=some (r1,r2):=by (rw [UA];with_reducible exact H)
    have ahJ:=ah.mk UA
    clear UA
    have H':=ah.mk H
    clear H
    have adA: 0≤(bT:Int):=of_decide_eq_true cj
    have adB:bT < (aI.length:Int):=of_decide_eq_true cj
    obtain ⟨UB,lH,lI,nj,nk,nR,nS,ayj,IZ,I0,I1,I2,I3,I4,I5,I6,I7,Pk,Pm,Pn,Po,Pp,Pq⟩:=qw rI.out bT adA adB
    cases ayj
    replace IZ:=(HB.out.cell (World.block_lt_of_cell? w _ IZ)).trans IZ
    replace I0:=(HB.out.cell (World.block_lt_of_cell? w _ I0)).trans I0
    replace I1:=(HB.out.cell (World.block_lt_of_cell? w _ I1)).trans I1
    replace I2:=(HB.out.cell (World.block_lt_of_cell? w _ I2)).trans I2
    replace I3:=(HB.out.cell (World.block_lt_of_cell? w _ I3)).trans I3
    replace I4:=(HB.out.cell (World.block_lt_of_cell? w _ I4)).trans I4
    replace I5:=(HB.out.cell (World.block_lt_of_cell? w _ I5)).trans I5
    replace I6:=(HB.out.cell (World.block_lt_of_cell? w _ I6)).trans I6
    replace I7:=(HB.out.cell (World.block_lt_of_cell? w _ I7)).trans I7
    have Zm:=ah.mk Pm
    have Zn:=ah.mk Pk
    clear Pm Pk
    have Zo:=ah.mk Po
    have Zp:=ah.mk Pn
    clear Po Pn
    have Zq:=ah.mk Pq
    have Zr:=ah.mk Pp
    clear Pq Pp
    replace adA:=eq_true adA
    replace adB:=eq_true adB
    try go_wp2_with (((with_reducible refine bp (N:=5) rfl ?_);refine br ?hg (N:=5) ?hd (cs:=#[.int .i64 0,.bool false,.slice none 0 0,.string (⟨#[]⟩:ByteArray),.string (⟨#[]⟩:ByteArray),.bool false,.slice none 0 0,.slice none 0 0,.int .i64 0]) (t:=34) ?hr ?_;(case hd=>rfl);(case hg=>rfl);(case hr=>(go_simp;done));intro cP hg tD bG hb;replace fN:=ah.mk (Kd.dY (Kd.TD (by exact fN.out) cP (Nat.le_of_eq hg.symm)) hb);have eD:=ah.mk (bG);have aAK:=ah.mk ((bF:w.heap.size≤cP));have ahK:=ah.mk ((bF:w.heap.size≤cP));replace HB:=ah.mk (ay aJ hb);have lY:=ah.mk ((Gr:qD≠cP));have RJ:=ah.mk ((Gs:cP≠qD));replace kX:=ah.mk (aA ze hb);have lZ:=ah.mk ((by rw [hg];exact Nat.ne_of_lt (dQ rD):qd≠cP));have RL:=ah.mk ((by rw [hg];exact Nat.ne_of_gt (dQ rD):cP≠qd));replace mK:=ah.mk (aA rD hb);have lJ:=ah.mk ((by rw [hg];exact Nat.ne_of_lt (dQ (by exact iU.out)):nZ≠cP));have FC:=ah.mk ((by rw [hg];exact Nat.ne_of_gt (dQ (by exact iU.out)):cP≠nZ));replace iU:=ah.mk (aA (by exact iU.out) hb);clear hb bG hg;have Uy:=RJ.out;have Uz:=lY.out;have abv:=RL.out;have abw:=lZ.out;have abx:=FC.out;have aby:=lJ.out;have Da:tD.cell? ⟨cP,0,none⟩=some (.int .i64 0):=(af eD.out 0).trans rfl;have Db:tD.cell? ⟨cP,1,none⟩=some (.bool false):=(af eD.out 1).trans rfl;have Dc:tD.cell? ⟨cP,2,none⟩=some (.slice none 0 0):=(af eD.out 2).trans rfl;have I8:tD.cell? ⟨cP,3,none⟩=some (.string (⟨#[]⟩:ByteArray)):=(af eD.out 3).trans rfl;have I9:tD.cell? ⟨cP,4,none⟩=some (.string (⟨#[]⟩:ByteArray)):=(af eD.out 4).trans rfl;have Ja:tD.cell? ⟨cP,5,none⟩=some (.bool false):=(af eD.out 5).trans rfl;have Pr:tD.cell? ⟨cP,6,none⟩=some (.slice none 0 0):=(af eD.out 6).trans rfl;have Pv:tD.cell? ⟨cP,7,none⟩=some (.slice none 0 0):=(af eD.out 7).trans rfl;have Pw:tD.cell? ⟨cP,8,none⟩=some (.int .i64 0):=(af eD.out 8).trans rfl;have Dd:=aa eD.out 0;have De:=aa eD.out 1;have Df:=aa eD.out 2;have Jb:=aa eD.out 3;have Jc:=aa eD.out 4;have Jd:=aa eD.out 5;have Px:=aa eD.out 6;have Py:=aa eD.out 7;have Pz:=aa eD.out 8))
    have kj:ah (Kd.S Fw 34 (((((((((tD.setCell ⟨cP,0,none⟩ (.int .i64 ((aj aI bT).f0))).setCell ⟨cP,1,none⟩ (.bool ((aj aI bT).f1.f0))).setCell ⟨cP,2,none⟩ (.slice lH ((aj aI bT).f1.f1).length lI)).setCell ⟨cP,3,none⟩ (.string ((aj aI bT).f1.f2.f0))).setCell ⟨cP,4,none⟩ (.string ((aj aI bT).f1.f2.f1))).setCell ⟨cP,5,none⟩ (.bool ((aj aI bT).f1.f2.f2))).setCell ⟨cP,6,none⟩ (.slice nj ((aj aI bT).f2).length nk)).setCell ⟨cP,7,none⟩ (.slice nR ((aj aI bT).f3).length nS)).setCell ⟨cP,8,none⟩ (.int .i64 ((aj aI bT).f4))) w.heap.size (fun k_ =>k_≠cP) kE n7):=⟨by exact Kd.fB (Kd.cB (p:=⟨cP,8,none⟩) (Kd.cB (p:=⟨cP,7,none⟩) (Kd.cB (p:=⟨cP,6,none⟩) (Kd.cB (p:=⟨cP,5,none⟩) (Kd.cB (p:=⟨cP,4,none⟩) (Kd.cB (p:=⟨cP,3,none⟩) (Kd.cB (p:=⟨cP,2,none⟩) (Kd.cB (p:=⟨cP,1,none⟩) (Kd.cB (p:=⟨cP,0,none⟩) (Kd.fB fN.out (fun k_ hk=>(⟨hk,hk.2⟩:_∧k_≠cP))) (fun _ hk=>hk.2) (.int .i64 ((aj aI bT).f0))) (fun _ hk=>hk.2) (.bool ((aj aI bT).f1.f0))) (fun _ hk=>hk.2) (.slice lH ((aj aI bT).f1.f1).length lI)) (fun _ hk=>hk.2) (.string ((aj aI bT).f1.f2.f0))) (fun _ hk=>hk.2) (.string ((aj aI bT).f1.f2.f1))) (fun _ hk=>hk.2) (.bool ((aj aI bT).f1.f2.f2))) (fun _ hk=>hk.2) (.slice nj ((aj aI bT).f2).length nk)) (fun _ hk=>hk.2) (.slice nR ((aj aI bT).f3).length nS)) (fun _ hk=>hk.2) (.int .i64 ((aj aI bT).f4))) (fun _ hk=>hk.1.2)⟩
    have ko:ah ((((((((((tD.setCell ⟨cP,0,none⟩ (.int .i64 ((aj aI bT).f0))).setCell ⟨cP,1,none⟩ (.bool ((aj aI bT).f1.f0))).setCell ⟨cP,2,none⟩ (.slice lH ((aj aI bT).f1.f1).length lI)).setCell ⟨cP,3,none⟩ (.string ((aj aI bT).f1.f2.f0))).setCell ⟨cP,4,none⟩ (.string ((aj aI bT).f1.f2.f1))).setCell ⟨cP,5,none⟩ (.bool ((aj aI bT).f1.f2.f2))).setCell ⟨cP,6,none⟩ (.slice nj ((aj aI bT).f2).length nk)).setCell ⟨cP,7,none⟩ (.slice nR ((aj aI bT).f3).length nS)).setCell ⟨cP,8,none⟩ (.int .i64 ((aj aI bT).f4))).heap[qD]? =some (.cells #[.int .i64 bg,.slice (some UB) aI.length ia] 40 (0,0))):=⟨by refine aU ?_ lY.out _;refine aU ?_ lY.out _;refine aU ?_ lY.out _;refine aU ?_ lY.out _;refine aU ?_ lY.out _;refine aU ?_ lY.out _;refine aU ?_ lY.out _;refine aU ?_ lY.out _;refine aU ?_ lY.out _;exact kX.out⟩
    have mV:ah ((((((((((tD.setCell ⟨cP,0,none⟩ (.int .i64 ((aj aI bT).f0))).setCell ⟨cP,1,none⟩ (.bool ((aj aI bT).f1.f0))).setCell ⟨cP,2,none⟩ (.slice lH ((aj aI bT).f1.f1).length lI)).setCell ⟨cP,3,none⟩ (.string ((aj aI bT).f1.f2.f0))).setCell ⟨cP,4,none⟩ (.string ((aj aI bT).f1.f2.f1))).setCell ⟨cP,5,none⟩ (.bool ((aj aI bT).f1.f2.f2))).setCell ⟨cP,6,none⟩ (.slice nj ((aj aI bT).f2).length nk)).setCell ⟨cP,7,none⟩ (.slice nR ((aj aI bT).f3).length nS)).setCell ⟨cP,8,none⟩ (.int .i64 ((aj aI bT).f4))).heap[qd]? =some (.cells #[.int .i64 0,.slice none 0 0] 40 (0,0))):=⟨by refine aU ?_ lZ.out _;refine aU ?_ lZ.out _;refine aU ?_ lZ.out _;refine aU ?_ lZ.out _;refine aU ?_ lZ.out _;refine aU ?_ lZ.out _;refine aU ?_ lZ.out _;refine aU ?_ lZ.out _;refine aU ?_ lZ.out _;exact mK.out⟩
    have E5:ah ((((((((((tD.setCell ⟨cP,0,none⟩ (.int .i64 ((aj aI bT).f0))).setCell ⟨cP,1,none⟩ (.bool ((aj aI bT).f1.f0))).setCell ⟨cP,2,none⟩ (.slice lH ((aj aI bT).f1.f1).length lI)).setCell ⟨cP,3,none⟩ (.string ((aj aI bT).f1.f2.f0))).setCell ⟨cP,4,none⟩ (.string ((aj aI bT).f1.f2.f1))).setCell ⟨cP,5,none⟩ (.bool ((aj aI bT).f1.f2.f2))).setCell ⟨cP,6,none⟩ (.slice nj ((aj aI bT).f2).length nk)).setCell ⟨cP,7,none⟩ (.slice nR ((aj aI bT).f3).length nS)).setCell ⟨cP,8,none⟩ (.int .i64 ((aj aI bT).f4))).heap[nZ]? =some (.cells #[.int .i64 bg,kE] 40 (0,0))):=⟨by refine aU ?_ lJ.out _;refine aU ?_ lJ.out _;refine aU ?_ lJ.out _;refine aU ?_ lJ.out _;refine aU ?_ lJ.out _;refine aU ?_ lJ.out _;refine aU ?_ lJ.out _;refine aU ?_ lJ.out _;refine aU ?_ lJ.out _;exact iU.out⟩
    have Km:ah ((((((((((tD.setCell ⟨cP,0,none⟩ (.int .i64 ((aj aI bT).f0))).setCell ⟨cP,1,none⟩ (.bool ((aj aI bT).f1.f0))).setCell ⟨cP,2,none⟩ (.slice lH ((aj aI bT).f1.f1).length lI)).setCell ⟨cP,3,none⟩ (.string ((aj aI bT).f1.f2.f0))).setCell ⟨cP,4,none⟩ (.string ((aj aI bT).f1.f2.f1))).setCell ⟨cP,5,none⟩ (.bool ((aj aI bT).f1.f2.f2))).setCell ⟨cP,6,none⟩ (.slice nj ((aj aI bT).f2).length nk)).setCell ⟨cP,7,none⟩ (.slice nR ((aj aI bT).f3).length nS)).setCell ⟨cP,8,none⟩ (.int .i64 ((aj aI bT).f4))).heap[cP]? =some (.cells #[.int .i64 ((aj aI bT).f0),.bool ((aj aI bT).f1.f0),.slice lH ((aj aI bT).f1.f1).length lI,.string ((aj aI bT).f1.f2.f0),.string ((aj aI bT).f1.f2.f1),.bool ((aj aI bT).f1.f2.f2),.slice nj ((aj aI bT).f2).length nk,.slice nR ((aj aI bT).f3).length nS,.int .i64 ((aj aI bT).f4)] 34 (0,0))):=⟨by refine aZ (cs:=#[.int .i64 ((aj aI bT).f0),.bool ((aj aI bT).f1.f0),.slice lH ((aj aI bT).f1.f1).length lI,.string ((aj aI bT).f1.f2.f0),.string ((aj aI bT).f1.f2.f1),.bool ((aj aI bT).f1.f2.f2),.slice nj ((aj aI bT).f2).length nk,.slice nR ((aj aI bT).f3).length nS,.int .i64 0]) ?_ 8 _ rfl;refine aZ (cs:=#[.int .i64 ((aj aI bT).f0),.bool ((aj aI bT).f1.f0),.slice lH ((aj aI bT).f1.f1).length lI,.string ((aj aI bT).f1.f2.f0),.string ((aj aI bT).f1.f2.f1),.bool ((aj aI bT).f1.f2.f2),.slice nj ((aj aI bT).f2).length nk,.slice none 0 0,.int .i64 0]) ?_ 7 _ rfl;refine aZ (cs:=#[.int .i64 ((aj aI bT).f0),.bool ((aj aI bT).f1.f0),.slice lH ((aj aI bT).f1.f1).length lI,.string ((aj aI bT).f1.f2.f0),.string ((aj aI bT).f1.f2.f1),.bool ((aj aI bT).f1.f2.f2),.slice none 0 0,.slice none 0 0,.int .i64 0]) ?_ 6 _ rfl;refine aZ (cs:=#[.int .i64 ((aj aI bT).f0),.bool ((aj aI bT).f1.f0),.slice lH ((aj aI bT).f1.f1).length lI,.string ((aj aI bT).f1.f2.f0),.string ((aj aI bT).f1.f2.f1),.bool false,.slice none 0 0,.slice none 0 0,.int .i64 0]) ?_ 5 _ rfl;refine aZ (cs:=#[.int .i64 ((aj aI bT).f0),.bool ((aj aI bT).f1.f0),.slice lH ((aj aI bT).f1.f1).length lI,.string ((aj aI bT).f1.f2.f0),.string (⟨#[]⟩:ByteArray),.bool false,.slice none 0 0,.slice none 0 0,.int .i64 0]) ?_ 4 _ rfl;refine aZ (cs:=#[.int .i64 ((aj aI bT).f0),.bool ((aj aI bT).f1.f0),.slice lH ((aj aI bT).f1.f1).length lI,.string (⟨#[]⟩:ByteArray),.string (⟨#[]⟩:ByteArray),.bool false,.slice none 0 0,.slice none 0 0,.int .i64 0]) ?_ 3 _ rfl;refine aZ (cs:=#[.int .i64 ((aj aI bT).f0),.bool ((aj aI bT).f1.f0),.slice none 0 0,.string (⟨#[]⟩:ByteArray),.string (⟨#[]⟩:ByteArray),.bool false,.slice none 0 0,.slice none 0 0,.int .i64 0]) ?_ 2 _ rfl;refine aZ (cs:=#[.int .i64 ((aj aI bT).f0),.bool false,.slice none 0 0,.string (⟨#[]⟩:ByteArray),.string (⟨#[]⟩:ByteArray),.bool false,.slice none 0 0,.slice none 0 0,.int .i64 0]) ?_ 1 _ rfl;refine aZ (cs:=#[.int .i64 0,.bool false,.slice none 0 0,.string (⟨#[]⟩:ByteArray),.string (⟨#[]⟩:ByteArray),.bool false,.slice none 0 0,.slice none 0 0,.int .i64 0]) ?_ 0 _ rfl;exact eD.out⟩
    have ML:ah (Below w.heap.size w (((((((((tD.setCell ⟨cP,0,none⟩ (.int .i64 ((aj aI bT).f0))).setCell ⟨cP,1,none⟩ (.bool ((aj aI bT).f1.f0))).setCell ⟨cP,2,none⟩ (.slice lH ((aj aI bT).f1.f1).length lI)).setCell ⟨cP,3,none⟩ (.string ((aj aI bT).f1.f2.f0))).setCell ⟨cP,4,none⟩ (.string ((aj aI bT).f1.f2.f1))).setCell ⟨cP,5,none⟩ (.bool ((aj aI bT).f1.f2.f2))).setCell ⟨cP,6,none⟩ (.slice nj ((aj aI bT).f2).length nk)).setCell ⟨cP,7,none⟩ (.slice nR ((aj aI bT).f3).length nS)).setCell ⟨cP,8,none⟩ (.int .i64 ((aj aI bT).f4)))):=⟨by repeat ((with_reducible first|exact HB.out|refine cC ?_ ahK.out))⟩
    generalize (((((((((tD.setCell ⟨cP,0,none⟩ (.int .i64 ((aj aI bT).f0))).setCell ⟨cP,1,none⟩ (.bool ((aj aI bT).f1.f0))).setCell ⟨cP,2,none⟩ (.slice lH ((aj aI bT).f1.f1).length lI)).setCell ⟨cP,3,none⟩ (.string ((aj aI bT).f1.f2.f0))).setCell ⟨cP,4,none⟩ (.string ((aj aI bT).f1.f2.f1))).setCell ⟨cP,5,none⟩ (.bool ((aj aI bT).f1.f2.f2))).setCell ⟨cP,6,none⟩ (.slice nj ((aj aI bT).f2).length nk)).setCell ⟨cP,7,none⟩ (.slice nR ((aj aI bT).f3).length nS)).setCell ⟨cP,8,none⟩ (.int .i64 ((aj aI bT).f4)))=Rz at kj ko mV E5 Km ML ⊢
    have fN:=kj
    have kX:=ko
    have mK:=mV
    have iU:=E5
    have eD:=Km
    have HB:=ML
    clear kj ko mV E5 Km ML
    have kj:=ah.mk (Kd.TC fN.out)
    have ko:=ah.mk (iA kX.out)
    have mV:=ah.mk (iA mK.out)
    have E5:=ah.mk (iA iU.out)
    have Km:=ah.mk (iA eD.out)
    have ML:=ah.mk (fS HB.out)
    clear fN
    clear kX
    clear mK
    clear iU
    clear eD
    clear HB
    have fN:=kj
    have kX:=ko
    have mK:=mV
    have iU:=E5
    have eD:=Km
    have HB:=ML
    clear kj ko mV E5 Km ML
    refine kS (n:=8) (S:=fun w'=>w'.cell? ⟨nZ,0,none⟩=some (.int .i64 bg)∧w'.cell? ⟨nZ,1,none⟩=some (kE)∧w'.cell? ⟨cP,0,none⟩=some (.int .i64 ((aj aI bT).f0))∧w'.cell? ⟨cP,1,none⟩=some (.bool ((aj aI bT).f1.f0))∧w'.cell? ⟨cP,2,none⟩=some (.slice lH ((aj aI bT).f1.f1).length lI)∧w'.cell? ⟨cP,3,none⟩=some (.string ((aj aI bT).f1.f2.f0))∧w'.cell? ⟨cP,4,none⟩=some (.string ((aj aI bT).f1.f2.f1))∧w'.cell? ⟨cP,5,none⟩=some (.bool ((aj aI bT).f1.f2.f2))∧w'.cell? ⟨cP,6,none⟩=some (.slice nj ((aj aI bT).f2).length nk)∧w'.cell? ⟨cP,7,none⟩=some (.slice nR ((aj aI bT).f3).length nS)∧w'.cell? ⟨cP,8,none⟩=some (.int .i64 ((aj aI bT).f4))) (ds:=[7]) #[false,false,false,false,false,false,false,false] aq (by rfl) (by rfl) ⟨(af iU.out 0).trans rfl,(af iU.out 1).trans rfl,(af eD.out 0).trans rfl,(af eD.out 1).trans rfl,(af eD.out 2).trans rfl,(af eD.out 3).trans rfl,(af eD.out 4).trans rfl,(af eD.out 5).trans rfl,(af eD.out 6).trans rfl,(af eD.out 7).trans rfl,(af eD.out 8).trans rfl⟩ (fun hHeld=>?_);refine kL cx.ayi cx.ahE (fun dh rq=>?_)
    generalize Rz.drew=Vs at fN kX mK iU eD HB hHeld ⊢
    refine aN (i:=0) (N:=some 16) #[true,false,false,false,false,false,false,false] rfl rfl (bf dh.out aq) (fun _ _ _ h=>h) (Or.inl ⟨by rfl,cD⟩) rfl ?_
    refine fL (i:=1) (N:=some 17) #[true,true,false,false,false,false,false,false] rfl rfl (eV dh.out rq.out aq) (fun _ _ _ h=>h) (Or.inl ⟨by rfl,NT⟩) hHeld rfl ?_
    refine fL (i:=2) (N:=some 18) #[true,true,true,false,false,false,false,false] rfl rfl (eV dh.out rq.out aq) (fun _ _ _ h=>h) (Or.inl ⟨by rfl,NT⟩) hHeld rfl ?_
    refine nP (i:=3) (N:=some 19) #[true,true,true,true,false,false,false,false] rfl rfl (jU dh.out aq) bC (fun K hK=>?_)
    refine lF Tryz.func72 aq rfl #[.agg #[.int .i64 ((aj aI bT).f0),.bool ((aj aI bT).f1.f0),.slice lH ((aj aI bT).f1.f1).length lI,.string ((aj aI bT).f1.f2.f0),.string ((aj aI bT).f1.f2.f1),.bool ((aj aI bT).f1.f2.f2),.slice nj ((aj aI bT).f2).length nk,.slice nR ((aj aI bT).f3).length nS,.int .i64 ((aj aI bT).f4)]] (by rfl) rfl rfl dK ?_
    with_reducible refine (iC.calls ((aj aI bT).f0) ((aj aI bT).f1.f0) _ _ ((aj aI bT).f1.f1) ((aj aI bT).f1.f2.f0) ((aj aI bT).f1.f2.f1) ((aj aI bT).f1.f2.f2) _ _ ((aj aI bT).f2) _ _ ((aj aI bT).f3) ((aj aI bT).f4) t117 t118 t119 t122 t123 t124 t125 t128 t131 _ ?bn ?bN ?cW ?fD ?gK ?gL A14.out).mono ?_
    (case bn=>repeat (exact (Kd.bQ Zm.out HB.out)))
    (case bN=>exact Zn.out)
    (case cW=>repeat (exact (Kd.bQ Zo.out HB.out)))
    (case fD=>exact Zp.out)
    (case gK=>repeat (exact (Kd.bQ Zq.out HB.out)))
    (case gL=>exact Zr.out)
    rintro e sP ⟨aEl,aEm,aEn,rfl,ho0,Fm,ES,hb⟩
    refine ⟨_,rfl,?_⟩
    have kj:=ah.mk (Kd.fB (Kd.jV (Kd.jV (Kd.jV (Kd.zq (by exact fN.out) hb) (Kd.fV ho0)) (Kd.fV Fm)) (Kd.fV ES)) (fun _ h_ =>h_.1))
    have ko:=ah.mk (Kd.dX ho0 (b7 aJ))
    have mV:=ah.mk (Kd.dX Fm (b7 aJ))
    have E5:=ah.mk (Kd.dX ES (b7 aJ))
    have Km:=ah.mk (aA (g:=qD) (o:= .cells #[.int .i64 bg,.slice (some UB) aI.length ia] 40 (0,0)) ze hb)
    have ML:=ah.mk (aA (g:=qd) (o:= .cells #[.int .i64 0,.slice none 0 0] 40 (0,0)) rD hb)
    have n6_ :=ah.mk (aA (g:=nZ) (o:= .cells #[.int .i64 bg,kE] 40 (0,0)) (by exact iU.out) hb)
    have n7_ :=ah.mk (aA (g:=cP) (o:= .cells #[.int .i64 ((aj aI bT).f0),.bool ((aj aI bT).f1.f0),.slice lH ((aj aI bT).f1.f1).length lI,.string ((aj aI bT).f1.f2.f0),.string ((aj aI bT).f1.f2.f1),.bool ((aj aI bT).f1.f2.f2),.slice nj ((aj aI bT).f2).length nk,.slice nR ((aj aI bT).f3).length nS,.int .i64 ((aj aI bT).f4)] 34 (0,0)) (by exact eD.out) hb)
    have n8_ :=ah.mk (ay aJ hb)
    clear fN
    clear kX
    clear mK
    clear iU
    clear eD
    clear HB
    have fN:=kj
    have PA:=ko
    have PB:=mV
    have PC:=E5
    have kX:=Km
    have mK:=ML
    have iU:=n6_
    have eD:=n7_
    have HB:=n8_
    clear kj ko mV E5 Km ML n6_ n7_ n8_
    obtain ⟨adh,adi,adj⟩:=Kd.dm PA.out
    (subst adj)
    obtain ⟨ahL,ahM,ayk⟩:=Kd.dm PB.out
    (subst ayk)
    obtain ⟨ahN,ahO,ayl⟩:=Kd.dm PC.out
    (subst ayl)
    refine hK.out _ _ ⟨(af iU.out 0).trans rfl,(af iU.out 1).trans rfl,(af eD.out 0).trans rfl,(af eD.out 1).trans rfl,(af eD.out 2).trans rfl,(af eD.out 3).trans rfl,(af eD.out 4).trans rfl,(af eD.out 5).trans rfl,(af eD.out 6).trans rfl,(af eD.out 7).trans rfl,(af eD.out 8).trans rfl⟩ (fun hHeld=>?_)
    clear hK K
    refine ku (a':=?_) ?_ ?_
    rotate_left
    ·show Act.put _ (some 19) _=_
     simp only [Act.put,List.setIfInBounds_toArray,List.set_cons_zero,List.set_cons_succ,aV,aW]
     rfl
    refine nP (i:=4) (N:=some 20) #[true,true,true,true,true,false,false,false] rfl rfl (jU dh.out aq) bC (fun K hK=>?_)
    refine TA (w1:=?_) (v:=?_) (by rfl) rfl ?_ ?_
    rotate_left 2
    ·go_simp
     constructor
     ·rfl
     ·rfl
    refine hK.out _ _ ⟨(af (gM iU.out _) 0).trans rfl,(af (gM iU.out _) 1).trans rfl,(af (gM eD.out _) 0).trans rfl,(af (gM eD.out _) 1).trans rfl,(af (gM eD.out _) 2).trans rfl,(af (gM eD.out _) 3).trans rfl,(af (gM eD.out _) 4).trans rfl,(af (gM eD.out _) 5).trans rfl,(af (gM eD.out _) 6).trans rfl,(af (gM eD.out _) 7).trans rfl,(af (gM eD.out _) 8).trans rfl⟩ (fun hHeld=>?_)
    clear hK K
    refine ku (a':=?_) ?_ ?_
    rotate_left
    ·show Act.put _ (some 20) _=_
     simp only [Act.put,List.setIfInBounds_toArray,List.set_cons_zero,List.set_cons_succ,aV,aW]
     rfl
    refine nP (i:=5) (N:=some 21) #[true,true,true,true,true,true,false,false] rfl rfl (jU dh.out aq) bC (fun K hK=>?_)
    refine Kd.yh Fw (w0:=w) w.heap.size (by rfl) (.tmp 17) (.tmp 20) 38 34 (.agg #[(.int .i64 0),(.bool false),(.slice none 0 0),(.string ⟨#[]⟩),(.string ⟨#[]⟩),(.bool false),(.slice none 0 0),(.slice none 0 0),(.int .i64 0)]) 136 rfl Tryz.underlying38 acy rfl bC az kE n7 (⟨t117,(⟨t118,t119,(⟨t122,t123,t124⟩:Fu)⟩:SB),t125,t128,t131⟩:pE) [.int .i64 t117,.bool t118,.slice adh t119.length adi,.string t122,.string t123,.bool t124,.slice ahL t125.length ahM,.slice ahN t128.length ahO,.int .i64 t131] (fun k_ =>k_≠cP) (fun k_ =>some k_=(.slice adh t119.length adi:Value).ownBlock∨some k_=(.slice ahL t125.length ahM:Value).ownBlock∨some k_=(.slice ahN t128.length ahO:Value).ownBlock) rfl rfl ?aP (fun k_ hk_ =>hk_.elim (fun h_ =>((Kd.dH (ok':=fun k_ =>((fun k_ =>k_≠cP)) k_∧some k_≠(kE:Value).ownBlock) (Kd.dD (Kd.tu (PA.out) (Kd.xp fN.out) bC) eD.out bC) (fun k_ hk=>⟨hk.2,hk.1.2⟩))).1 k_ h_.symm) (fun h_ =>h_.elim (fun h_ =>((Kd.dH (ok':=fun k_ =>((fun k_ =>k_≠cP)) k_∧some k_≠(kE:Value).ownBlock) (Kd.dD (Kd.tu (PB.out) (Kd.xp fN.out) bC) eD.out bC) (fun k_ hk=>⟨hk.2,hk.1.2⟩))).1 k_ h_.symm) (fun h_ =>((Kd.dH (ok':=fun k_ =>((fun k_ =>k_≠cP)) k_∧some k_≠(kE:Value).ownBlock) (Kd.dD (Kd.tu (PC.out) (Kd.xp fN.out) bC) eD.out bC) (fun k_ hk=>⟨hk.2,hk.1.2⟩))).1 k_ h_.symm))) ?aF ?aO ?aB ?aS ?aL ?_
    (case aP=>exact GR _ _ _ (⟨t117,(⟨t118,t119,(⟨t122,t123,t124⟩:Fu)⟩:SB),t125,t128,t131⟩:pE) (Kd.dH (Kd.zo rfl (Kd.dH (ok':=fun k_ =>((fun k_ =>k_≠cP)) k_∧some k_≠(kE:Value).ownBlock) (Kd.dD (Kd.tu (PA.out) (Kd.xp fN.out) bC) eD.out bC) (fun k_ hk=>⟨hk.2,hk.1.2⟩))) (fun _ h_ =>Or.inl h_)) (Kd.dH (Kd.zo rfl (Kd.dH (ok':=fun k_ =>((fun k_ =>k_≠cP)) k_∧some k_≠(kE:Value).ownBlock) (Kd.dD (Kd.tu (PB.out) (Kd.xp fN.out) bC) eD.out bC) (fun k_ hk=>⟨hk.2,hk.1.2⟩))) (fun _ h_ =>Or.inr (Or.inl h_))) (Kd.dH (Kd.zo rfl (Kd.dH (ok':=fun k_ =>((fun k_ =>k_≠cP)) k_∧some k_≠(kE:Value).ownBlock) (Kd.dD (Kd.tu (PC.out) (Kd.xp fN.out) bC) eD.out bC) (fun k_ hk=>⟨hk.2,hk.1.2⟩))) (fun _ h_ =>Or.inr (Or.inr (h_)))))
    (case aB=>exact aJ)
    (case aF=>exact (fun k_ hk=>Kd.acm (g:=cP) (o:= .cells #[.int .i64 ((aj aI bT).f0),.bool ((aj aI bT).f1.f0),.slice lH ((aj aI bT).f1.f1).length lI,.string ((aj aI bT).f1.f2.f0),.string ((aj aI bT).f1.f2.f1),.bool ((aj aI bT).f1.f2.f2),.slice nj ((aj aI bT).f2).length nk,.slice nR ((aj aI bT).f3).length nS,.int .i64 ((aj aI bT).f4)] 34 (0,0)) (by exact eD.out) k_ hk))
    (case aO=>exact (by exact Kd.fB fN.out (fun k_ hk=>⟨hk.1.1.1,fun e_ =>e_.elim (fun h_ =>hk.1.1.2 h_) (fun h_ =>h_.elim (fun h_ =>hk.1.2 h_) (fun h_ =>hk.2 h_))⟩)))
    (case aS=>exact (b7 aJ))
    (case aL=>have:=ahI.out;omega)
    intro aEo yP ho hb hg hat
    rw [← ahJ.out] at ho
    have kj:=ah.mk (fM (g:=qD) (o:= .cells #[.int .i64 bg,.slice (some UB) aI.length ia] 40 (0,0)) ze hg (Kd.Mk fN.out kX.out bC))
    have ko:=ah.mk (fM (g:=qd) (o:= .cells #[.int .i64 0,.slice none 0 0] 40 (0,0)) rD hg (Kd.Mk fN.out mK.out bC))
    have mV:=ah.mk (fM (g:=nZ) (o:= .cells #[.int .i64 bg,kE] 40 (0,0)) (by exact iU.out) hg (Kd.Mk fN.out iU.out bC))
    have E5:=ah.mk (fM (g:=cP) (o:= .cells #[.int .i64 ((aj aI bT).f0),.bool ((aj aI bT).f1.f0),.slice lH ((aj aI bT).f1.f1).length lI,.string ((aj aI bT).f1.f2.f0),.string ((aj aI bT).f1.f2.f1),.bool ((aj aI bT).f1.f2.f2),.slice nj ((aj aI bT).f2).length nk,.slice nR ((aj aI bT).f3).length nS,.int .i64 ((aj aI bT).f4)] 34 (0,0)) (by exact eD.out) hg (Kd.acr fN.out (fun _ hk=>hk.1.1.1)))
    have Km:=ah.mk (hb)
    have ML:=ah.mk (ho)
    clear kX
    clear mK
    clear iU
    clear eD
    clear HB
    clear fN
    clear PA
    clear PB
    clear PC
    have kX:=kj
    have mK:=ko
    have iU:=mV
    have eD:=E5
    have HB:=Km
    have abz:=ML
    clear kj ko mV E5 Km ML
    clear ho hb hg hat
    obtain ⟨Zt,Zu,adC⟩:=Kd.iH abz.out
    (subst adC)
    refine hK.out _ _ ⟨(af iU.out 0).trans rfl,(af iU.out 1).trans rfl,(af eD.out 0).trans rfl,(af eD.out 1).trans rfl,(af eD.out 2).trans rfl,(af eD.out 3).trans rfl,(af eD.out 4).trans rfl,(af eD.out 5).trans rfl,(af eD.out 6).trans rfl,(af eD.out 7).trans rfl,(af eD.out 8).trans rfl⟩ (fun hHeld=>?_)
    clear hK K
    refine ku (a':=?_) ?_ ?_
    rotate_left
    ·show Act.put _ (some 21) _=_
     simp only [Act.put,List.setIfInBounds_toArray,List.set_cons_zero,List.set_cons_succ,aV,aW]
     rfl
    refine aN (i:=6) (N:=some 22) #[true,true,true,true,true,true,true,false] rfl rfl (bf dh.out aq) (fun _ _ _ h=>h) (Or.inl ⟨by rfl,cD⟩) rfl ?_
    refine Kv (i:=7) (N:=none) #[true,true,true,true,true,true,true,true] rfl rfl (jU dh.out aq) bC (fun K hK=>?_)
    have aEp:yP.cell? ⟨nZ,1,none⟩=some (kE):=(af iU.out 1).trans rfl
    have aAO:=aa iU.out 1
    have aqi:=qN.out
    have aqj:=qO.out
    have aqk:=FC.out
    have aql:=AL.out
    have aqm:=AQ.out
    have aqn:=lJ.out
    refine Kw (w1:=?_) (by rfl) rfl ?_ ?_
    rotate_left
    ·go_simp
     rfl
    refine hK.out _ _ ?_
    clear hK K
    refine nv (nJ dh.out aq) ?_
    try go_wp2
    go_roundg k1
    case measure=>have:=qi.out;omega
    case rel=>exact ⟨(wrap64 (bT + 1)),(Zl),(.slice Zt Zl.length Zu),(by rfl),H',⟨lu⟩,⟨by exact Kd.fB (Kd.cB (p:=⟨nZ,1,none⟩) (Kd.gw abz.out iU.out bC) (fun _ hk=>hk.2) (.slice Zt Zl.length Zu)) (fun _ hk=>trivial)⟩,⟨by refine aU ?_ qN.out _;exact kX.out⟩,⟨by refine aU ?_ qO.out _;exact mK.out⟩,⟨by refine aZ (cs:=#[.int .i64 bg,kE]) ?_ 1 _ rfl;exact iU.out⟩,⟨NV⟩⟩
   ·rw [if_neg c11] at H
    have zI:=decide_eq_false c11
    clear c11
    simp only [Option.some.injEq,Prod.mk.injEq] at H
    obtain ⟨rfl,rfl⟩:=H
    have abA:=AL.out
    have abB:=qN.out
    have aAP:=AQ.out
    have aAQ:=qO.out
    have aqo:wr.cell? ⟨nZ,0,none⟩=some (.int .i64 bg):=(af iU.out 0).trans rfl
    have aqp:wr.cell? ⟨nZ,1,none⟩=some (kE):=(af iU.out 1).trans rfl
    have aqq:=aa iU.out 0
    have aqr:=aa iU.out 1
    have aAR:=FB.out
    have aAS:=FA.out
    have Zv:wr.cell? ⟨qd,0,none⟩=some (.int .i64 0):=(af mK.out 0).trans rfl
    have Zw:wr.cell? ⟨qd,1,none⟩=some (.slice none 0 0):=(af mK.out 1).trans rfl
    have Zx:=aa mK.out 0
    have Zy:=aa mK.out 1
    obtain ⟨Je,Jf,adD⟩:=Kd.iH fN.out
    subst adD
    go_wp2
    refine bodyPost_ret (results_cell_row rfl _ _ qd 40 #[.int .i64 bg,.slice Je n7.length Jf] (0,0) _ rfl (by refine aZ (cs:=#[.int .i64 bg,.slice none 0 0]) ?_ 1 _ rfl;refine aZ (cs:=#[.int .i64 0,.slice none 0 0]) ?_ 0 _ rfl;exact mK.out) Tryz.underlying40 rfl aq) rfl ?_
    exact ⟨_,by rfl,by exact Kd.fB (Kd.cB (p:=⟨qd,1,none⟩) (Kd.cB (p:=⟨qd,0,none⟩) (Kd.gw fN.out mK.out bC) (fun _ hk=>hk.2) (.int .i64 bg)) (fun _ hk=>hk.2) (.slice Je n7.length Jf)) (fun _ hk=>trivial),by repeat ((with_reducible first|exact HB.out|refine cC ?_ ahF.out))⟩
end Go.Proofs.YtbjjaaodfbjkfaaGreatDoor.mU
