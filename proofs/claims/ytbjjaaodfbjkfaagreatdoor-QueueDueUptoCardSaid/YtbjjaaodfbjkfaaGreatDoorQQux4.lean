import Derived.Test.YtbjjaaodfbjkfaaGreatDoorESlim
import Derived.Test.YtbjjaaodfbjkfaaGreatDoorEClone
set_option maxHeartbeats 8000000
set_option maxRecDepth 100000
namespace Go.Proofs.YtbjjaaodfbjkfaaGreatDoor.ow
open Go.RowKit Go.Proofs.YtbjjaaodfbjkfaaGreatDoor.zi Go.Proofs.ak.bY Go.Proofs.ak.dU Go.Proofs.ak.dJ
attribute [local go_sem] jt ju kH kI iw iy jv jw
set_option linter.unusedVariables false
set_option linter.unusedSimpArgs false
def iZ.f (bu:Int) (bX:Bool) (cQ:List ByteArray) (bL:ByteArray) (bQ:ByteArray) (b9:Bool) (bT:List (jN)) (cY:List Int) (cg:Int):Option (Int×Bool×List ByteArray×ByteArray×ByteArray×Bool×(List (jN))×List Int×Int):=(fZ.f cQ).bind fun t103=>((fq.f bT).bind fun t106=>((gL.f cY).bind fun t109=>(some (bu,bX,t103,bL,bQ,b9,t106,t109,cg))))
def iZ.T1:Bool×List (List Nat×List Nat):=(true,[([],[]),([0],[0]),([1],[1]),([2],[2]),([],[]),([4],[4]),([5,3],[5]),([],[]),([7],[7]),([8,6],[8]),([0,1,2,3,4,5,7,8],[]),([10,0,1,2,3,4,5,7,8],[10]),([11,3,9,0,1,2,3,4,5,7,8],[3,11]),([0,1,2,3,4,5,6,7,8,10,11,12],[]),([13,6,12,0,1,2,3,4,5,6,7,8,10,11,12],[6,13]),([0,1,2,3,4,5,6,7,8,9,10,11,12,13,14],[]),([15,9,14,0,1,2,3,4,5,6,7,8,9,10,11,12,13,14],[9,15])])
def iZ.B1:List Nat:=[0,1,3,7,0,16,63,0,128,511,447,1471,4095,8191,16383,32767,65535]
theorem iZ.OQ:qT .any (opsOf Tryz.f72 1)=iZ.T1:=by kernel_rfl
theorem iZ.Fp:qM iZ.T1.2 iZ.B1=true:=by kernel_rfl
theorem iZ.calls (bu:Int) (bX:Bool) (eK:Option Addr) (eN:Nat) (cQ:List ByteArray) (bL:ByteArray) (bQ:ByteArray) (b9:Bool) (dA:Option Addr) (dw:Nat) (bT:List (jN)) (eO:Option Addr) (eP:Nat) (cY:List Int) (cg:Int) (r1:Int) (r2:Bool) (r3:List ByteArray) (r4:ByteArray) (r5:ByteArray) (r6:Bool) (r7:List (jN)) (r8:List Int) (r9:Int) (w:World) (rD:Kd.C Kd.string w eK cQ.length cQ) (rE:cQ.length≤eN) (oc:Kd.C sN w dA bT.length bT) (oG:bT.length≤dw) (rF:Kd.C (Kd.int .u8) w eO cY.length cY) (rG:cY.length≤eP) (h:iZ.f bu bX cQ bL bQ b9 bT cY cg=some (r1,r2,r3,r4,r5,r6,r7,r8,r9)):
 Calls Tryz.prog 72 #[.agg #[.int .i64 bu,.bool bX,.slice eK cQ.length eN,.string bL,.string bQ,.bool b9,.slice dA bT.length dw,.slice eO cY.length eP,.int .i64 cg]] w fun e w'=>∃ v2_ UW v7_:Value,e= .returned (.agg #[.int .i64 r1,.bool r2,v2_,.string r4,.string r5,.bool r6,UW,v7_,.int .i64 r9])∧Kd.R Kd.string 9 w' w.heap.size (fun _ =>True) v2_ r3∧Kd.R sN 37 w' w.heap.size (fun _ =>True) UW r7∧Kd.R (Kd.int .u8) 5 w' w.heap.size (fun _ =>True) v7_ r8∧Below w.heap.size w w':=by
 have CM:=Tryz.underlying34
 have og:=ah.mk rD
 have om:=ah.mk rE
 clear rD rE
 have mQ:=ah.mk oc
 have nW:=ah.mk oG
 clear oc oG
 have xp:=ah.mk rF
 have xq:=ah.mk rG
 clear rF rG
 have HB:=ah.mk (Below.refl w.heap.size w)
 have H:((fZ.f cQ).bind fun t103=>((fq.f bT).bind fun t106=>((gL.f cY).bind fun t109=>(some (bu,bX,t103,bL,bQ,b9,t106,t109,cg)))))=some (r1,r2,r3,r4,r5,r6,r7,r8,r9):=h
 clear h
 obtain ⟨t103,A2,H⟩:=bd_ H
 obtain ⟨t106,A3,H⟩:=bd_ H
 obtain ⟨t109,A4,H⟩:=bd_ H
 simp only [Option.some.injEq,Prod.mk.injEq] at H
 obtain ⟨rfl,rfl,rfl,rfl,rfl,rfl,rfl,rfl,rfl⟩:=H
 go_enter Tryz.func72,Tryz.ntmps72
 try go_wp2_with (first|((with_reducible refine bw (N:=1) rfl ?_);refine bA ?hg (N:=1) ?hd (cs:=#[.int .i64 bu,.bool bX,.slice eK cQ.length eN,.string bL,.string bQ,.bool b9,.slice dA bT.length dw,.slice eO cY.length eP,.int .i64 cg]) (t:=34) ?hr ?_;(case hd=>rfl);(case hg=>rfl);(case hr=>(go_simp;done));intro jM hg w5 bH hb;have eX:=ah.mk (bH);have aGj:=ah.mk ((bG:w.heap.size≤jM));have aoc:=ah.mk ((bG:w.heap.size≤jM));replace HB:=ah.mk (av aI hb);clear hb bH hg)|((with_reducible refine bw (N:=2) rfl ?_);refine bA ?hg (N:=2) ?hd (cs:=#[.int .i64 0,.bool false,.slice none 0 0,.string (⟨#[]⟩:ByteArray),.string (⟨#[]⟩:ByteArray),.bool false,.slice none 0 0,.slice none 0 0,.int .i64 0]) (t:=34) ?hr ?_;(case hd=>rfl);(case hg=>rfl);(case hr=>(go_simp;done));intro iG hg w6 bH hb;have jT:=ah.mk (bH);have aGk:=ah.mk ((bG:w.heap.size≤iG));have aod:=ah.mk ((bG:w.heap.size≤iG));replace HB:=ah.mk (av aI hb);have ym:=ah.mk ((by rw [hg];exact Nat.ne_of_lt (eD xP):jM≠iG));have qE:=ah.mk ((by rw [hg];exact Nat.ne_of_gt (eD xP):iG≠jM));replace eX:=ah.mk (az xP hb);clear hb bH hg))
 have jJ:=ah.mk (iR eX.out)
 have jK:=ah.mk (iR jT.out)
 have lV:=ah.mk (gG HB.out)
 clear eX
 clear jT
 clear HB
 have eX:=jJ
 have jT:=jK
 have HB:=lV
 clear jJ jK lV
 refine lU (n:=17) (S:=fun w'=>w'.cell? ⟨jM,0,none⟩=some (.int .i64 bu)∧w'.cell? ⟨jM,1,none⟩=some (.bool bX)∧w'.cell? ⟨jM,2,none⟩=some (.slice eK cQ.length eN)∧w'.cell? ⟨jM,3,none⟩=some (.string bL)∧w'.cell? ⟨jM,4,none⟩=some (.string bQ)∧w'.cell? ⟨jM,5,none⟩=some (.bool b9)∧w'.cell? ⟨jM,6,none⟩=some (.slice dA bT.length dw)∧w'.cell? ⟨jM,7,none⟩=some (.slice eO cY.length eP)∧w'.cell? ⟨jM,8,none⟩=some (.int .i64 cg)) (ds:=[12,14,16]) #[false,false,false,false,false,false,false,false,false,false,false,false,false,false,false,false,false] au (by rfl) (by rfl) ⟨(af eX.out 0).trans rfl,(af eX.out 1).trans rfl,(af eX.out 2).trans rfl,(af eX.out 3).trans rfl,(af eX.out 4).trans rfl,(af eX.out 5).trans rfl,(af eX.out 6).trans rfl,(af eX.out 7).trans rfl,(af eX.out 8).trans rfl⟩ (fun hHeld=>?_);refine lG iZ.OQ iZ.Fp (fun dL sJ=>?_)
 generalize w6.drew=w7 at eX jT HB hHeld ⊢
 refine aQ (i:=0) (N:=some 3) #[true,false,false,false,false,false,false,false,false,false,false,false,false,false,false,false,false] rfl rfl (br dL.out au) (fun _ _ _ h=>h) (Or.inl ⟨by rfl,cJ⟩) rfl ?_
 refine aQ (i:=1) (N:=some 4) #[true,true,false,false,false,false,false,false,false,false,false,false,false,false,false,false,false] rfl rfl (br dL.out au) (fun _ _ _ h=>h) (Or.inl ⟨by rfl,cJ⟩) rfl ?_
 refine aQ (i:=4) (N:=some 7) #[true,true,false,false,true,false,false,false,false,false,false,false,false,false,false,false,false] rfl rfl (br dL.out au) (fun _ _ _ h=>h) (Or.inl ⟨by rfl,cJ⟩) rfl ?_
 refine aQ (i:=7) (N:=some 10) #[true,true,false,false,true,false,false,true,false,false,false,false,false,false,false,false,false] rfl rfl (br dL.out au) (fun _ _ _ h=>h) (Or.inl ⟨by rfl,cJ⟩) rfl ?_
 refine gv (i:=2) (N:=some 5) #[true,true,true,false,true,false,false,true,false,false,false,false,false,false,false,false,false] rfl rfl (fK dL.out sJ.out au) (fun _ _ _ h=>h) (Or.inl ⟨by rfl,qA⟩) hHeld rfl ?_
 refine gv (i:=5) (N:=some 8) #[true,true,true,false,true,true,false,true,false,false,false,false,false,false,false,false,false] rfl rfl (fK dL.out sJ.out au) (fun _ _ _ h=>h) (Or.inl ⟨by rfl,qA⟩) hHeld rfl ?_
 refine gv (i:=8) (N:=some 11) #[true,true,true,false,true,true,false,true,true,false,false,false,false,false,false,false,false] rfl rfl (fK dL.out sJ.out au) (fun _ _ _ h=>h) (Or.inl ⟨by rfl,qA⟩) hHeld rfl ?_
 refine pq (i:=3) (N:=some 6) #[true,true,true,true,true,true,false,true,true,false,false,false,false,false,false,false,false] rfl rfl (kF dL.out au) bC (fun K hK=>?_)
 refine mH Tryz.func119 au rfl #[.slice eK cQ.length eN] (by rfl) rfl rfl dM ?_
 with_reducible refine (fZ.calls _ _ cQ t103 _ ?bk ?bI A2.out).mono ?_
 (case bk=>repeat (exact (Kd.bU og.out HB.out)))
 (case bI=>exact om.out)
 rintro e w8 ⟨aJ7,rfl,ho0,hb⟩
 refine ⟨_,rfl,?_⟩
 have jJ:=ah.mk (Kd.dY ho0 (bV aI))
 have jK:=ah.mk (az (g:=jM) (o:= .cells #[.int .i64 bu,.bool bX,.slice eK cQ.length eN,.string bL,.string bQ,.bool b9,.slice dA bT.length dw,.slice eO cY.length eP,.int .i64 cg] 34 (0,0)) xP hb)
 have lV:=ah.mk (az (g:=iG) (o:= .cells #[.int .i64 0,.bool false,.slice none 0 0,.string (⟨#[]⟩:ByteArray),.string (⟨#[]⟩:ByteArray),.bool false,.slice none 0 0,.slice none 0 0,.int .i64 0] 34 (0,0)) (by exact jT.out) hb)
 have wW:=ah.mk (av aI hb)
 clear eX
 clear jT
 clear HB
 have CC:=jJ
 have eX:=jK
 have jT:=lV
 have HB:=wW
 clear jJ jK lV wW
 refine hK.out _ _ ⟨(af eX.out 0).trans rfl,(af eX.out 1).trans rfl,(af eX.out 2).trans rfl,(af eX.out 3).trans rfl,(af eX.out 4).trans rfl,(af eX.out 5).trans rfl,(af eX.out 6).trans rfl,(af eX.out 7).trans rfl,(af eX.out 8).trans rfl⟩ (fun hHeld=>?_)
 clear hK K
 refine kX (a':=?_) ?_ ?_
 rotate_left
 ·show Act.put _ (some 6) _=_
  simp only [Act.put,List.setIfInBounds_toArray,List.set_cons_zero,List.set_cons_succ,aY,aZ]
  rfl
 refine aQ (i:=10) (N:=some 13) #[true,true,true,true,true,true,false,true,true,false,true,false,false,false,false,false,false] rfl rfl (br dL.out au) (fun _ _ _ h=>h) (Or.inl ⟨by rfl,cJ⟩) rfl ?_
 refine aQ (i:=11) (N:=some 14) #[true,true,true,true,true,true,false,true,true,false,true,true,false,false,false,false,false] rfl rfl (br dL.out au) (fun _ _ _ h=>h) (Or.inl ⟨by rfl,cJ⟩) rfl ?_
 refine pq (i:=6) (N:=some 9) #[true,true,true,true,true,true,true,true,true,false,true,true,false,false,false,false,false] rfl rfl (kF dL.out au) bC (fun K hK=>?_)
 refine mH Tryz.func120 au rfl #[.slice dA bT.length dw] (by rfl) rfl rfl dM ?_
 with_reducible refine (fq.calls _ _ bT t106 _ ?bk ?bI A3.out).mono ?_
 (case bk=>repeat (exact (Kd.bU mQ.out HB.out)))
 (case bI=>exact nW.out)
 rintro e w9 ⟨v107,rfl,ho0,hb⟩
 refine ⟨_,rfl,?_⟩
 have jJ:=ah.mk (Kd.bq (by exact CC.out) hb)
 have jK:=ah.mk (Kd.dY ho0 (bV aI))
 have lV:=ah.mk (az (g:=jM) (o:= .cells #[.int .i64 bu,.bool bX,.slice eK cQ.length eN,.string bL,.string bQ,.bool b9,.slice dA bT.length dw,.slice eO cY.length eP,.int .i64 cg] 34 (0,0)) xP hb)
 have wW:=ah.mk (az (g:=iG) (o:= .cells #[.int .i64 0,.bool false,.slice none 0 0,.string (⟨#[]⟩:ByteArray),.string (⟨#[]⟩:ByteArray),.bool false,.slice none 0 0,.slice none 0 0,.int .i64 0] 34 (0,0)) (by exact jT.out) hb)
 have yD:=ah.mk (av aI hb)
 clear CC
 clear eX
 clear jT
 clear HB
 have CC:=jJ
 have Mw:=jK
 have eX:=lV
 have jT:=wW
 have HB:=yD
 clear jJ jK lV wW yD
 refine hK.out _ _ ⟨(af eX.out 0).trans rfl,(af eX.out 1).trans rfl,(af eX.out 2).trans rfl,(af eX.out 3).trans rfl,(af eX.out 4).trans rfl,(af eX.out 5).trans rfl,(af eX.out 6).trans rfl,(af eX.out 7).trans rfl,(af eX.out 8).trans rfl⟩ (fun hHeld=>?_)
 clear hK K
 refine kX (a':=?_) ?_ ?_
 rotate_left
 ·show Act.put _ (some 9) _=_
  simp only [Act.put,List.setIfInBounds_toArray,List.set_cons_zero,List.set_cons_succ,aY,aZ]
  rfl
 refine pq (i:=9) (N:=some 12) #[true,true,true,true,true,true,true,true,true,true,true,true,false,false,false,false,false] rfl rfl (kF dL.out au) bC (fun K hK=>?_)
 refine mH Tryz.func121 au rfl #[.slice eO cY.length eP] (by rfl) rfl rfl dM ?_
 with_reducible refine (gL.calls _ _ cY t109 _ ?bk ?bI A4.out).mono ?_
 (case bk=>repeat (exact (Kd.bU xp.out HB.out)))
 (case bI=>exact xq.out)
 rintro e qw ⟨aJ8,rfl,ho0,hb⟩
 refine ⟨_,rfl,?_⟩
 have jJ:=ah.mk (Kd.bq (by exact CC.out) hb)
 have jK:=ah.mk (Kd.bq (by exact Mw.out) hb)
 have lV:=ah.mk (Kd.dY ho0 (bV aI))
 have wW:=ah.mk (az (g:=jM) (o:= .cells #[.int .i64 bu,.bool bX,.slice eK cQ.length eN,.string bL,.string bQ,.bool b9,.slice dA bT.length dw,.slice eO cY.length eP,.int .i64 cg] 34 (0,0)) xP hb)
 have yD:=ah.mk (az (g:=iG) (o:= .cells #[.int .i64 0,.bool false,.slice none 0 0,.string (⟨#[]⟩:ByteArray),.string (⟨#[]⟩:ByteArray),.bool false,.slice none 0 0,.slice none 0 0,.int .i64 0] 34 (0,0)) (by exact jT.out) hb)
 have zw:=ah.mk (av aI hb)
 clear CC
 clear Mw
 clear eX
 clear jT
 clear HB
 have CC:=jJ
 have Mw:=jK
 have ae9:=lV
 have eX:=wW
 have jT:=yD
 have HB:=zw
 clear jJ jK lV wW yD zw
 obtain ⟨ug,uh,XU⟩:=Kd.dF CC.out
 (subst XU)
 obtain ⟨Kf,Kg,aDL⟩:=Kd.dF Mw.out
 (subst aDL)
 obtain ⟨JL,JM,agL⟩:=Kd.dF ae9.out
 (subst agL)
 refine hK.out _ _ ⟨(af eX.out 0).trans rfl,(af eX.out 1).trans rfl,(af eX.out 2).trans rfl,(af eX.out 3).trans rfl,(af eX.out 4).trans rfl,(af eX.out 5).trans rfl,(af eX.out 6).trans rfl,(af eX.out 7).trans rfl,(af eX.out 8).trans rfl⟩ (fun hHeld=>?_)
 clear hK K
 refine kX (a':=?_) ?_ ?_
 rotate_left
 ·show Act.put _ (some 12) _=_
  simp only [Act.put,List.setIfInBounds_toArray,List.set_cons_zero,List.set_cons_succ,aY,aZ]
  rfl
 refine LM (i:=12) (N:=none) #[true,true,true,true,true,true,true,true,true,true,true,true,true,false,false,false,false] rfl rfl (kF dL.out au) bC (fun K hK=>?_)
 have aJ9:qw.cell? ⟨jM,2,none⟩=some (.slice eK cQ.length eN):=(af eX.out 2).trans rfl
 have aGl:=aa eX.out 2
 have aAb:=qE.out
 have aAc:=ym.out
 refine LN (w1:=?_) (by rfl) rfl ?_ ?_
 rotate_left
 ·go_simp
  rfl
 refine hK.out _ _ ?_
 clear hK K
 refine aQ (i:=13) (N:=some 15) #[true,true,true,true,true,true,true,true,true,true,true,true,true,true,false,false,false] rfl rfl (br dL.out au) (fun _ _ _ h=>h) (Or.inl ⟨by rfl,cJ⟩) rfl ?_
 refine LM (i:=14) (N:=none) #[true,true,true,true,true,true,true,true,true,true,true,true,true,true,true,false,false] rfl rfl (kF dL.out au) bC (fun K hK=>?_)
 have aKa:qw.cell? ⟨jM,6,none⟩=some (.slice dA bT.length dw):=(af eX.out 6).trans rfl
 have aGm:=aa eX.out 6
 have aAd:=qE.out
 have aAe:=ym.out
 refine LN (w1:=?_) (by rfl) rfl ?_ ?_
 rotate_left
 ·go_simp
  rfl
 refine hK.out _ _ ?_
 clear hK K
 refine aQ (i:=15) (N:=some 16) #[true,true,true,true,true,true,true,true,true,true,true,true,true,true,true,true,false] rfl rfl (br dL.out au) (fun _ _ _ h=>h) (Or.inl ⟨by rfl,cJ⟩) rfl ?_
 refine LM (i:=16) (N:=none) #[true,true,true,true,true,true,true,true,true,true,true,true,true,true,true,true,true] rfl rfl (kF dL.out au) bC (fun K hK=>?_)
 have aKb:qw.cell? ⟨jM,7,none⟩=some (.slice eO cY.length eP):=(af eX.out 7).trans rfl
 have aGn:=aa eX.out 7
 have aAf:=qE.out
 have aAg:=ym.out
 refine LN (w1:=?_) (by rfl) rfl ?_ ?_
 rotate_left
 ·go_simp
  rfl
 refine hK.out _ _ ?_
 clear hK K
 refine oU (o7 dL.out au) ?_
 have aeI:=ym.out
 have aeJ:=qE.out
 have DI:qw.cell? ⟨jM,0,none⟩=some (.int .i64 bu):=(af eX.out 0).trans rfl
 have DJ:qw.cell? ⟨jM,1,none⟩=some (.bool bX):=(af eX.out 1).trans rfl
 have DK:qw.cell? ⟨jM,2,none⟩=some (.slice eK cQ.length eN):=(af eX.out 2).trans rfl
 have DL:qw.cell? ⟨jM,3,none⟩=some (.string bL):=(af eX.out 3).trans rfl
 have DM:qw.cell? ⟨jM,4,none⟩=some (.string bQ):=(af eX.out 4).trans rfl
 have IU:qw.cell? ⟨jM,5,none⟩=some (.bool b9):=(af eX.out 5).trans rfl
 have Qi:qw.cell? ⟨jM,6,none⟩=some (.slice dA bT.length dw):=(af eX.out 6).trans rfl
 have Qj:qw.cell? ⟨jM,7,none⟩=some (.slice eO cY.length eP):=(af eX.out 7).trans rfl
 have Qk:qw.cell? ⟨jM,8,none⟩=some (.int .i64 cg):=(af eX.out 8).trans rfl
 have DN:=aa eX.out 0
 have DR:=aa eX.out 1
 have DT:=aa eX.out 2
 have DU:=aa eX.out 3
 have DV:=aa eX.out 4
 have IV:=aa eX.out 5
 have Ql:=aa eX.out 6
 have Qm:=aa eX.out 7
 have Qn:=aa eX.out 8
 have IY:qw.cell? ⟨iG,0,none⟩=some (.int .i64 0):=(af jT.out 0).trans rfl
 have IZ:qw.cell? ⟨iG,1,none⟩=some (.bool false):=(af jT.out 1).trans rfl
 have I0:qw.cell? ⟨iG,2,none⟩=some (.slice none 0 0):=(af jT.out 2).trans rfl
 have I1:qw.cell? ⟨iG,3,none⟩=some (.string (⟨#[]⟩:ByteArray)):=(af jT.out 3).trans rfl
 have I2:qw.cell? ⟨iG,4,none⟩=some (.string (⟨#[]⟩:ByteArray)):=(af jT.out 4).trans rfl
 have I3:qw.cell? ⟨iG,5,none⟩=some (.bool false):=(af jT.out 5).trans rfl
 have I4:qw.cell? ⟨iG,6,none⟩=some (.slice none 0 0):=(af jT.out 6).trans rfl
 have I5:qw.cell? ⟨iG,7,none⟩=some (.slice none 0 0):=(af jT.out 7).trans rfl
 have I6:qw.cell? ⟨iG,8,none⟩=some (.int .i64 0):=(af jT.out 8).trans rfl
 have I7:=aa jT.out 0
 have I8:=aa jT.out 1
 have I9:=aa jT.out 2
 have Ja:=aa jT.out 3
 have Jb:=aa jT.out 4
 have Jc:=aa jT.out 5
 have Jd:=aa jT.out 6
 have Je:=aa jT.out 7
 have Jf:=aa jT.out 8
 try go_wp2
 refine bodyPost_ret (results_cell_row rfl _ _ iG 34 #[.int .i64 bu,.bool bX,.slice ug t103.length uh,.string bL,.string bQ,.bool b9,.slice Kf t106.length Kg,.slice JL t109.length JM,.int .i64 cg] (0,0) _ rfl (by refine aW (cs:=#[.int .i64 bu,.bool bX,.slice ug t103.length uh,.string bL,.string bQ,.bool b9,.slice Kf t106.length Kg,.slice JL t109.length JM,.int .i64 0]) ?_ 8 _ rfl;refine aW (cs:=#[.int .i64 bu,.bool bX,.slice ug t103.length uh,.string bL,.string bQ,.bool b9,.slice Kf t106.length Kg,.slice none 0 0,.int .i64 0]) ?_ 7 _ rfl;refine aW (cs:=#[.int .i64 bu,.bool bX,.slice ug t103.length uh,.string bL,.string bQ,.bool b9,.slice none 0 0,.slice none 0 0,.int .i64 0]) ?_ 6 _ rfl;refine aW (cs:=#[.int .i64 bu,.bool bX,.slice ug t103.length uh,.string bL,.string bQ,.bool false,.slice none 0 0,.slice none 0 0,.int .i64 0]) ?_ 5 _ rfl;refine aW (cs:=#[.int .i64 bu,.bool bX,.slice ug t103.length uh,.string bL,.string (⟨#[]⟩:ByteArray),.bool false,.slice none 0 0,.slice none 0 0,.int .i64 0]) ?_ 4 _ rfl;refine aW (cs:=#[.int .i64 bu,.bool bX,.slice ug t103.length uh,.string (⟨#[]⟩:ByteArray),.string (⟨#[]⟩:ByteArray),.bool false,.slice none 0 0,.slice none 0 0,.int .i64 0]) ?_ 3 _ rfl;refine aW (cs:=#[.int .i64 bu,.bool bX,.slice none 0 0,.string (⟨#[]⟩:ByteArray),.string (⟨#[]⟩:ByteArray),.bool false,.slice none 0 0,.slice none 0 0,.int .i64 0]) ?_ 2 _ rfl;refine aW (cs:=#[.int .i64 bu,.bool false,.slice none 0 0,.string (⟨#[]⟩:ByteArray),.string (⟨#[]⟩:ByteArray),.bool false,.slice none 0 0,.slice none 0 0,.int .i64 0]) ?_ 1 _ rfl;refine aW (cs:=#[.int .i64 0,.bool false,.slice none 0 0,.string (⟨#[]⟩:ByteArray),.string (⟨#[]⟩:ByteArray),.bool false,.slice none 0 0,.slice none 0 0,.int .i64 0]) ?_ 0 _ rfl;refine aR ?_ qE.out _;refine aR ?_ qE.out _;refine aR ?_ qE.out _;exact jT.out) Tryz.underlying34 rfl au) rfl ?_
 exact ⟨_,_,_,by rfl,by exact Kd.cB (Kd.bf (p:=⟨iG,8,none⟩) (Kd.bf (p:=⟨iG,7,none⟩) (Kd.bf (p:=⟨iG,6,none⟩) (Kd.bf (p:=⟨iG,5,none⟩) (Kd.bf (p:=⟨iG,4,none⟩) (Kd.bf (p:=⟨iG,3,none⟩) (Kd.bf (p:=⟨iG,2,none⟩) (Kd.bf (p:=⟨iG,1,none⟩) (Kd.bf (p:=⟨iG,0,none⟩) (Kd.bf (p:=⟨jM,7,none⟩) (Kd.bf (p:=⟨jM,6,none⟩) (Kd.bf (p:=⟨jM,2,none⟩) (Kd.cS (Kd.cS CC.out eX.out bC) jT.out bC) (fun _ hk=>hk.1.2) (.slice ug t103.length uh)) (fun _ hk=>hk.1.2) (.slice Kf t106.length Kg)) (fun _ hk=>hk.1.2) (.slice JL t109.length JM)) (fun _ hk=>hk.2) (.int .i64 bu)) (fun _ hk=>hk.2) (.bool bX)) (fun _ hk=>hk.2) (.slice ug t103.length uh)) (fun _ hk=>hk.2) (.string bL)) (fun _ hk=>hk.2) (.string bQ)) (fun _ hk=>hk.2) (.bool b9)) (fun _ hk=>hk.2) (.slice Kf t106.length Kg)) (fun _ hk=>hk.2) (.slice JL t109.length JM)) (fun _ hk=>hk.2) (.int .i64 cg)) (fun _ hk=>trivial),by exact Kd.cB (Kd.bf (p:=⟨iG,8,none⟩) (Kd.bf (p:=⟨iG,7,none⟩) (Kd.bf (p:=⟨iG,6,none⟩) (Kd.bf (p:=⟨iG,5,none⟩) (Kd.bf (p:=⟨iG,4,none⟩) (Kd.bf (p:=⟨iG,3,none⟩) (Kd.bf (p:=⟨iG,2,none⟩) (Kd.bf (p:=⟨iG,1,none⟩) (Kd.bf (p:=⟨iG,0,none⟩) (Kd.bf (p:=⟨jM,7,none⟩) (Kd.bf (p:=⟨jM,6,none⟩) (Kd.bf (p:=⟨jM,2,none⟩) (Kd.cS (Kd.cS Mw.out eX.out bC) jT.out bC) (fun _ hk=>hk.1.2) (.slice ug t103.length uh)) (fun _ hk=>hk.1.2) (.slice Kf t106.length Kg)) (fun _ hk=>hk.1.2) (.slice JL t109.length JM)) (fun _ hk=>hk.2) (.int .i64 bu)) (fun _ hk=>hk.2) (.bool bX)) (fun _ hk=>hk.2) (.slice ug t103.length uh)) (fun _ hk=>hk.2) (.string bL)) (fun _ hk=>hk.2) (.string bQ)) (fun _ hk=>hk.2) (.bool b9)) (fun _ hk=>hk.2) (.slice Kf t106.length Kg)) (fun _ hk=>hk.2) (.slice JL t109.length JM)) (fun _ hk=>hk.2) (.int .i64 cg)) (fun _ hk=>trivial),by exact Kd.cB (Kd.bf (p:=⟨iG,8,none⟩) (Kd.bf (p:=⟨iG,7,none⟩) (Kd.bf (p:=⟨iG,6,none⟩) (Kd.bf (p:=⟨iG,5,none⟩) (Kd.bf (p:=⟨iG,4,none⟩) (Kd.bf (p:=⟨iG,3,none⟩) (Kd.bf (p:=⟨iG,2,none⟩) (Kd.bf (p:=⟨iG,1,none⟩) (Kd.bf (p:=⟨iG,0,none⟩) (Kd.bf (p:=⟨jM,7,none⟩) (Kd.bf (p:=⟨jM,6,none⟩) (Kd.bf (p:=⟨jM,2,none⟩) (Kd.cS (Kd.cS ae9.out eX.out bC) jT.out bC) (fun _ hk=>hk.1.2) (.slice ug t103.length uh)) (fun _ hk=>hk.1.2) (.slice Kf t106.length Kg)) (fun _ hk=>hk.1.2) (.slice JL t109.length JM)) (fun _ hk=>hk.2) (.int .i64 bu)) (fun _ hk=>hk.2) (.bool bX)) (fun _ hk=>hk.2) (.slice ug t103.length uh)) (fun _ hk=>hk.2) (.string bL)) (fun _ hk=>hk.2) (.string bQ)) (fun _ hk=>hk.2) (.bool b9)) (fun _ hk=>hk.2) (.slice Kf t106.length Kg)) (fun _ hk=>hk.2) (.slice JL t109.length JM)) (fun _ hk=>hk.2) (.int .i64 cg)) (fun _ hk=>trivial),by repeat ((with_reducible first|exact HB.out|refine cC ?_ aoc.out|refine cC ?_ aod.out))⟩
def cF.l0:Nat→List (pO)→Int→Int→Int→List (pO)→Option (Int×(List (pO)))
 | 0,_,_,_,_,_ =>none
 |k + 1,uK,sw,wQ,Ty,Kh=>if wQ < sw then (if 0≤wQ then (if wQ < (uK.length:Int) then ((iZ.f ((aj uK wQ).f0) ((aj uK wQ).f1.f0) ((aj uK wQ).f1.f1) ((aj uK wQ).f1.f2.f0) ((aj uK wQ).f1.f2.f1) ((aj uK wQ).f1.f2.f2) ((aj uK wQ).f2) ((aj uK wQ).f3) ((aj uK wQ).f4)).bind fun Ba=>(if Kh.length < 1034834473200 then (cF.l0 k uK sw (wrap64 (wQ + 1)) Ty (Kh ++ [(⟨Ba.1,(⟨Ba.2.1,Ba.2.2.1,(⟨Ba.2.2.2.1,Ba.2.2.2.2.1,Ba.2.2.2.2.2.1⟩:GI)⟩:VS),Ba.2.2.2.2.2.2.1,Ba.2.2.2.2.2.2.2.1,Ba.2.2.2.2.2.2.2.2⟩:pO)])) else (none))) else (none)) else (none)) else (some (Ty,Kh))
def cF.f (k:Nat) (bu:Int) (aT:List (pO)):Option (Int×(List (pO))):=cF.l0 k aT (aT.length:Int) 0 bu ([]:List (pO))
theorem cF.eY:∀ k,(∀ y0 y1 y2 y3 y4,fP (cF.l0 k y0 y1 y2 y3 y4) (cF.l0 (k + 1) y0 y1 y2 y3 y4))
 | 0=>fun _ _ _ _ _ r h=>by simp [cF.l0] at h
 |k + 1=>by
  have nY:=cF.eY k
  ·intro y0 y1 y2 y3 y4
   unfold cF.l0
   repeat' (with_reducible first|exact nY _ _ _ _ _|exact fP.refl _|refine fP.ite ?_ ?_|refine fP.bind ?_ (fun _ =>?_))
theorem cF.mono:∀ a0 a1 k,fP (cF.f k a0 a1) (cF.f (k + 1) a0 a1):=by
 intro a0 a1 k
 have nY:=cF.eY k
 unfold cF.f
 repeat' (with_reducible exact nY _ _ _ _ _)
def cF.T5:Bool×List (List Nat×List Nat):=(true,[([],[]),([0],[0]),([],[]),([2],[2]),([3],[3]),([1,4,3],[1,4]),([0,1,2,3,4,5],[]),([6,5,5,0,1,2,3,4,5],[5,6])])
def cF.B5:List Nat:=[0,1,0,4,12,31,63,127]
theorem cF.aDM:qT .any (opsOf Tryz.f57 5)=cF.T5:=by kernel_rfl
theorem cF.aoe:qM cF.T5.2 cF.B5=true:=by kernel_rfl
theorem cF.calls (k:Nat) (bu:Int) (kj:Option Addr) (jA:Nat) (aT:List (pO)) (r1:Int) (r2:List (pO)) (w:World) (qU:Kd.C Bz w kj aT.length aT) (qV:aT.length≤jA) (h:cF.f k bu aT=some (r1,r2)):
 Calls Tryz.prog 57 #[.agg #[.int .i64 bu,.slice kj aT.length jA]] w fun e w'=>∃ WX:Value,e= .returned (.agg #[.int .i64 r1,WX])∧Kd.S Bz 34 w' w.heap.size (fun _ =>True) WX r2∧Below w.heap.size w w':=by
 have UT:=Tryz.underlying40
 have CM:=Tryz.underlying34
 have yJ:=ah.mk qU
 have GL:=ah.mk qV
 clear qU qV
 have HB:=ah.mk (Below.refl w.heap.size w)
 have H:(cF.l0 k aT (aT.length:Int) 0 bu ([]:List (pO)))=some (r1,r2):=h
 clear h
 have H':=ah.mk H
 clear H
 go_enter Tryz.func57,Tryz.ntmps57
 go_wp2_with (first|((with_reducible refine bw (N:=1) rfl ?_);refine bA ?hg (N:=1) ?hd (cs:=#[.int .i64 bu,.slice kj aT.length jA]) (t:=40) ?hr ?_;(case hd=>rfl);(case hg=>rfl);(case hr=>(go_simp;done));intro rI hg w2 bH hb;have lY:=ah.mk (bH);have aGo:=ah.mk ((bG:w.heap.size≤rI));have aGp:=ah.mk ((bG:w.heap.size≤rI));replace HB:=ah.mk (av aI hb);clear hb bH hg)|((with_reducible refine bw (N:=2) rfl ?_);refine bA ?hg (N:=2) ?hd (cs:=#[.int .i64 0,.slice none 0 0]) (t:=40) ?hr ?_;(case hd=>rfl);(case hg=>rfl);(case hr=>(go_simp;done));intro qZ hg w3 bH hb;have n9:=ah.mk (bH);have aGq:=ah.mk ((bG:w.heap.size≤qZ));have aof:=ah.mk ((bG:w.heap.size≤qZ));replace HB:=ah.mk (av aI hb);have GU:=ah.mk ((HQ:rI≠qZ));have GV:=ah.mk ((H6:qZ≠rI));replace lY:=ah.mk (az zJ hb);clear hb bH hg;have aKc:=GU.out;have aKd:=GV.out;have Xl:w3.cell? ⟨rI,0,none⟩=some (.int .i64 bu):=(af lY.out 0).trans rfl;have Xm:w3.cell? ⟨rI,1,none⟩=some (.slice kj aT.length jA):=(af lY.out 1).trans rfl;have Xn:=aa lY.out 0;have Xo:=aa lY.out 1)|((with_reducible refine bw (N:=3) rfl ?_);refine bA ?hg (N:=3) ?hd (cs:=#[.int .i64 0,.slice none 0 0]) (t:=40) ?hr ?_;(case hd=>rfl);(case hg=>rfl);(case hr=>(go_simp;done));intro pJ hg w6 bH hb;have jx:=ah.mk (bH);have aGr:=ah.mk ((bG:w.heap.size≤pJ));have aiJ:=ah.mk ((bG:w.heap.size≤pJ));replace HB:=ah.mk (av aI hb);have rV:=ah.mk ((HQ:rI≠pJ));have BS:=ah.mk ((H6:pJ≠rI));replace lY:=ah.mk (az zJ hb);have rW:=ah.mk ((by rw [hg];exact Nat.ne_of_lt (eD sX):qZ≠pJ));have BU:=ah.mk ((by rw [hg];exact Nat.ne_of_gt (eD sX):pJ≠qZ));replace n9:=ah.mk (az sX hb);clear hb bH hg;have ai7:=BS.out;have ai8:=rV.out;have aKe:=BU.out;have aKf:=rW.out;have BF:w6.cell? ⟨pJ,0,none⟩=some (.int .i64 0):=(af jx.out 0).trans rfl;have BG:w6.cell? ⟨pJ,1,none⟩=some (.slice none 0 0):=(af jx.out 1).trans rfl;have BH:=aa jx.out 0;have BI:=aa jx.out 1;have Ea:w6.cell? ⟨rI,0,none⟩=some (.int .i64 bu):=(af lY.out 0).trans rfl;have Eb:w6.cell? ⟨rI,1,none⟩=some (.slice kj aT.length jA):=(af lY.out 1).trans rfl;have Ec:=aa lY.out 0;have Ed:=aa lY.out 1))
 go_loopg [12] k (fun kq v12 w'=>∃ (b7:Int) (pK:List (pO)) (lu:Value),v12= .int .i64 b7∧ah (cF.l0 kq aT (aT.length:Int) b7 bu pK=some (r1,r2))∧ah (kq≤k)∧ah (Kd.S Bz 34 w' w.heap.size (fun _ =>True) lu pK)∧ah (w'.heap[rI]? =some (.cells #[.int .i64 bu,(.slice kj aT.length jA)] 40 (0,0)))∧ah (w'.heap[qZ]? =some (.cells #[.int .i64 0,(.slice none 0 0)] 40 (0,0)))∧ah (w'.heap[pJ]? =some (.cells #[.int .i64 bu,lu] 40 (0,0)))∧ah (Below w.heap.size w w'))
 case atStart=>exact ⟨(0),(([]:List (pO))),(.slice none 0 0),(by rfl),H',⟨Nat.le_refl _⟩,⟨by exact Kd.aeE _ _ _ _ _⟩,⟨by refine aR ?_ rV.out _;refine aR ?_ rV.out _;exact lY.out⟩,⟨by refine aR ?_ rW.out _;refine aR ?_ rW.out _;exact n9.out⟩,⟨by refine aW (cs:=#[.int .i64 bu,.slice none 0 0]) ?_ 1 _ rfl;refine aW (cs:=#[.int .i64 0,.slice none 0 0]) ?_ 0 _ rfl;exact jx.out⟩,⟨PV⟩⟩
 case round=>
  clear H'
  obtain ⟨b7,pK,lu,rfl,HA,oI,gw,lY,n9,jx,HB⟩:=hrel
  cases gk with
  |zero=>exact absurd HA.out (by simp [cF.l0])
  |succ k1=>
   have H:=HA.out
   clear HA
   simp only [cF.l0] at H
   by_cases c11:b7 < (aT.length:Int)
   ·rw [if_pos c11] at H
    have EX:=decide_eq_true c11
    clear c11
    obtain ⟨c12,H⟩:=lg H
    have L8:=decide_eq_true c12
    clear c12
    obtain ⟨c13,H⟩:=lg H
    have E8:=decide_eq_true c13
    clear c13
    obtain ⟨⟨t117,t118,t119,t122,t123,t124,t125,t128,t131⟩,A14,H⟩:=bd_ H
    (try dsimp only at H)
    obtain ⟨c15,H⟩:=lg H
    have aog:=ah.mk c15
    clear c15
    obtain ⟨adp,Ya⟩:∃ y_:List (pO),y_=(pK ++ [(⟨t117,(⟨t118,t119,(⟨t122,t123,t124⟩:GI)⟩:VS),t125,t128,t131⟩:pO)]):=⟨_,rfl⟩
    replace H:(cF.l0 k1 aT (aT.length:Int) (wrap64 (b7 + 1)) bu adp)=some (r1,r2):=by (rw [Ya];with_reducible exact H)
    have aoh:=ah.mk Ya
    clear Ya
    have H':=ah.mk H
    clear H
    have ahs: 0≤(b7:Int):=of_decide_eq_true cL
    have aht:b7 < (aT.length:Int):=of_decide_eq_true cL
    obtain ⟨Yb,mL,mM,oK,oL,pE,pF,aDN,Ki,Kj,Kk,Kl,Km,Kn,Ko,Kp,Kq,Tz,TA,TB,TC,TD,TE⟩:=tX yJ.out b7 ahs aht
    cases aDN
    replace Ki:=(HB.out.cell (World.block_lt_of_cell? w _ Ki)).trans Ki
    replace Kj:=(HB.out.cell (World.block_lt_of_cell? w _ Kj)).trans Kj
    replace Kk:=(HB.out.cell (World.block_lt_of_cell? w _ Kk)).trans Kk
    replace Kl:=(HB.out.cell (World.block_lt_of_cell? w _ Kl)).trans Kl
    replace Km:=(HB.out.cell (World.block_lt_of_cell? w _ Km)).trans Km
    replace Kn:=(HB.out.cell (World.block_lt_of_cell? w _ Kn)).trans Kn
    replace Ko:=(HB.out.cell (World.block_lt_of_cell? w _ Ko)).trans Ko
    replace Kp:=(HB.out.cell (World.block_lt_of_cell? w _ Kp)).trans Kp
    replace Kq:=(HB.out.cell (World.block_lt_of_cell? w _ Kq)).trans Kq
    have adq:=ah.mk TA
    have adr:=ah.mk Tz
    clear TA Tz
    have ads:=ah.mk TC
    have adt:=ah.mk TB
    clear TC TB
    have adu:=ah.mk TE
    have adv:=ah.mk TD
    clear TE TD
    replace ahs:=eq_true ahs
    replace aht:=eq_true aht
    try go_wp2_with (((with_reducible refine bw (N:=5) rfl ?_);refine bA ?hg (N:=5) ?hd (cs:=#[.int .i64 0,.bool false,.slice none 0 0,.string (⟨#[]⟩:ByteArray),.string (⟨#[]⟩:ByteArray),.bool false,.slice none 0 0,.slice none 0 0,.int .i64 0]) (t:=34) ?hr ?_;(case hd=>rfl);(case hg=>rfl);(case hr=>(go_simp;done));intro dh hg uz bH hb;replace gw:=ah.mk (Kd.cx (Kd.qa (by exact gw.out) dh (Nat.le_of_eq hg.symm)) hb);have fy:=ah.mk (bH);have aGs:=ah.mk ((bG:w.heap.size≤dh));have aoi:=ah.mk ((bG:w.heap.size≤dh));replace HB:=ah.mk (av aI hb);have nG:=ah.mk ((HQ:rI≠dh));have Va:=ah.mk ((H6:dh≠rI));replace lY:=ah.mk (az zJ hb);have nH:=ah.mk ((by rw [hg];exact Nat.ne_of_lt (eD sX):qZ≠dh));have Vb:=ah.mk ((by rw [hg];exact Nat.ne_of_gt (eD sX):dh≠qZ));replace n9:=ah.mk (az sX hb);have mN:=ah.mk ((by rw [hg];exact Nat.ne_of_lt (eD (by exact jx.out)):pJ≠dh));have GW:=ah.mk ((by rw [hg];exact Nat.ne_of_gt (eD (by exact jx.out)):dh≠pJ));replace jx:=ah.mk (az (by exact jx.out) hb);clear hb bH hg;have aeI:=Va.out;have aeJ:=nG.out;have aeN:=Vb.out;have aeO:=nH.out;have X6:=GW.out;have X7:=mN.out;have Ae:uz.cell? ⟨dh,0,none⟩=some (.int .i64 0):=(af fy.out 0).trans rfl;have Af:uz.cell? ⟨dh,1,none⟩=some (.bool false):=(af fy.out 1).trans rfl;have Ag:uz.cell? ⟨dh,2,none⟩=some (.slice none 0 0):=(af fy.out 2).trans rfl;have DW:uz.cell? ⟨dh,3,none⟩=some (.string (⟨#[]⟩:ByteArray)):=(af fy.out 3).trans rfl;have DX:uz.cell? ⟨dh,4,none⟩=some (.string (⟨#[]⟩:ByteArray)):=(af fy.out 4).trans rfl;have DY:uz.cell? ⟨dh,5,none⟩=some (.bool false):=(af fy.out 5).trans rfl;have Jg:uz.cell? ⟨dh,6,none⟩=some (.slice none 0 0):=(af fy.out 6).trans rfl;have Jh:uz.cell? ⟨dh,7,none⟩=some (.slice none 0 0):=(af fy.out 7).trans rfl;have Ji:uz.cell? ⟨dh,8,none⟩=some (.int .i64 0):=(af fy.out 8).trans rfl;have Ah:=aa fy.out 0;have Ai:=aa fy.out 1;have Aj:=aa fy.out 2;have DZ:=aa fy.out 3;have D2:=aa fy.out 4;have D3:=aa fy.out 5;have Jj:=aa fy.out 6;have Jk:=aa fy.out 7;have Jl:=aa fy.out 8))
    have jJ:ah (Kd.S Bz 34 (((((((((uz.setCell ⟨dh,0,none⟩ (.int .i64 ((aj aT b7).f0))).setCell ⟨dh,1,none⟩ (.bool ((aj aT b7).f1.f0))).setCell ⟨dh,2,none⟩ (.slice mL ((aj aT b7).f1.f1).length mM)).setCell ⟨dh,3,none⟩ (.string ((aj aT b7).f1.f2.f0))).setCell ⟨dh,4,none⟩ (.string ((aj aT b7).f1.f2.f1))).setCell ⟨dh,5,none⟩ (.bool ((aj aT b7).f1.f2.f2))).setCell ⟨dh,6,none⟩ (.slice oK ((aj aT b7).f2).length oL)).setCell ⟨dh,7,none⟩ (.slice pE ((aj aT b7).f3).length pF)).setCell ⟨dh,8,none⟩ (.int .i64 ((aj aT b7).f4))) w.heap.size (fun k_ =>k_≠dh) lu pK):=⟨by exact Kd.dG (Kd.bS (p:=⟨dh,8,none⟩) (Kd.bS (p:=⟨dh,7,none⟩) (Kd.bS (p:=⟨dh,6,none⟩) (Kd.bS (p:=⟨dh,5,none⟩) (Kd.bS (p:=⟨dh,4,none⟩) (Kd.bS (p:=⟨dh,3,none⟩) (Kd.bS (p:=⟨dh,2,none⟩) (Kd.bS (p:=⟨dh,1,none⟩) (Kd.bS (p:=⟨dh,0,none⟩) (Kd.dG gw.out (fun k_ hk=>(⟨hk,hk.2⟩:_∧k_≠dh))) (fun _ hk=>hk.2) (.int .i64 ((aj aT b7).f0))) (fun _ hk=>hk.2) (.bool ((aj aT b7).f1.f0))) (fun _ hk=>hk.2) (.slice mL ((aj aT b7).f1.f1).length mM)) (fun _ hk=>hk.2) (.string ((aj aT b7).f1.f2.f0))) (fun _ hk=>hk.2) (.string ((aj aT b7).f1.f2.f1))) (fun _ hk=>hk.2) (.bool ((aj aT b7).f1.f2.f2))) (fun _ hk=>hk.2) (.slice oK ((aj aT b7).f2).length oL)) (fun _ hk=>hk.2) (.slice pE ((aj aT b7).f3).length pF)) (fun _ hk=>hk.2) (.int .i64 ((aj aT b7).f4))) (fun _ hk=>hk.1.2)⟩
    have jK:ah ((((((((((uz.setCell ⟨dh,0,none⟩ (.int .i64 ((aj aT b7).f0))).setCell ⟨dh,1,none⟩ (.bool ((aj aT b7).f1.f0))).setCell ⟨dh,2,none⟩ (.slice mL ((aj aT b7).f1.f1).length mM)).setCell ⟨dh,3,none⟩ (.string ((aj aT b7).f1.f2.f0))).setCell ⟨dh,4,none⟩ (.string ((aj aT b7).f1.f2.f1))).setCell ⟨dh,5,none⟩ (.bool ((aj aT b7).f1.f2.f2))).setCell ⟨dh,6,none⟩ (.slice oK ((aj aT b7).f2).length oL)).setCell ⟨dh,7,none⟩ (.slice pE ((aj aT b7).f3).length pF)).setCell ⟨dh,8,none⟩ (.int .i64 ((aj aT b7).f4))).heap[rI]? =some (.cells #[.int .i64 bu,.slice (some Yb) aT.length jA] 40 (0,0))):=⟨by refine aR ?_ nG.out _;refine aR ?_ nG.out _;refine aR ?_ nG.out _;refine aR ?_ nG.out _;refine aR ?_ nG.out _;refine aR ?_ nG.out _;refine aR ?_ nG.out _;refine aR ?_ nG.out _;refine aR ?_ nG.out _;exact lY.out⟩
    have lV:ah ((((((((((uz.setCell ⟨dh,0,none⟩ (.int .i64 ((aj aT b7).f0))).setCell ⟨dh,1,none⟩ (.bool ((aj aT b7).f1.f0))).setCell ⟨dh,2,none⟩ (.slice mL ((aj aT b7).f1.f1).length mM)).setCell ⟨dh,3,none⟩ (.string ((aj aT b7).f1.f2.f0))).setCell ⟨dh,4,none⟩ (.string ((aj aT b7).f1.f2.f1))).setCell ⟨dh,5,none⟩ (.bool ((aj aT b7).f1.f2.f2))).setCell ⟨dh,6,none⟩ (.slice oK ((aj aT b7).f2).length oL)).setCell ⟨dh,7,none⟩ (.slice pE ((aj aT b7).f3).length pF)).setCell ⟨dh,8,none⟩ (.int .i64 ((aj aT b7).f4))).heap[qZ]? =some (.cells #[.int .i64 0,.slice none 0 0] 40 (0,0))):=⟨by refine aR ?_ nH.out _;refine aR ?_ nH.out _;refine aR ?_ nH.out _;refine aR ?_ nH.out _;refine aR ?_ nH.out _;refine aR ?_ nH.out _;refine aR ?_ nH.out _;refine aR ?_ nH.out _;refine aR ?_ nH.out _;exact n9.out⟩
    have wW:ah ((((((((((uz.setCell ⟨dh,0,none⟩ (.int .i64 ((aj aT b7).f0))).setCell ⟨dh,1,none⟩ (.bool ((aj aT b7).f1.f0))).setCell ⟨dh,2,none⟩ (.slice mL ((aj aT b7).f1.f1).length mM)).setCell ⟨dh,3,none⟩ (.string ((aj aT b7).f1.f2.f0))).setCell ⟨dh,4,none⟩ (.string ((aj aT b7).f1.f2.f1))).setCell ⟨dh,5,none⟩ (.bool ((aj aT b7).f1.f2.f2))).setCell ⟨dh,6,none⟩ (.slice oK ((aj aT b7).f2).length oL)).setCell ⟨dh,7,none⟩ (.slice pE ((aj aT b7).f3).length pF)).setCell ⟨dh,8,none⟩ (.int .i64 ((aj aT b7).f4))).heap[pJ]? =some (.cells #[.int .i64 bu,lu] 40 (0,0))):=⟨by refine aR ?_ mN.out _;refine aR ?_ mN.out _;refine aR ?_ mN.out _;refine aR ?_ mN.out _;refine aR ?_ mN.out _;refine aR ?_ mN.out _;refine aR ?_ mN.out _;refine aR ?_ mN.out _;refine aR ?_ mN.out _;exact jx.out⟩
    have yD:ah ((((((((((uz.setCell ⟨dh,0,none⟩ (.int .i64 ((aj aT b7).f0))).setCell ⟨dh,1,none⟩ (.bool ((aj aT b7).f1.f0))).setCell ⟨dh,2,none⟩ (.slice mL ((aj aT b7).f1.f1).length mM)).setCell ⟨dh,3,none⟩ (.string ((aj aT b7).f1.f2.f0))).setCell ⟨dh,4,none⟩ (.string ((aj aT b7).f1.f2.f1))).setCell ⟨dh,5,none⟩ (.bool ((aj aT b7).f1.f2.f2))).setCell ⟨dh,6,none⟩ (.slice oK ((aj aT b7).f2).length oL)).setCell ⟨dh,7,none⟩ (.slice pE ((aj aT b7).f3).length pF)).setCell ⟨dh,8,none⟩ (.int .i64 ((aj aT b7).f4))).heap[dh]? =some (.cells #[.int .i64 ((aj aT b7).f0),.bool ((aj aT b7).f1.f0),.slice mL ((aj aT b7).f1.f1).length mM,.string ((aj aT b7).f1.f2.f0),.string ((aj aT b7).f1.f2.f1),.bool ((aj aT b7).f1.f2.f2),.slice oK ((aj aT b7).f2).length oL,.slice pE ((aj aT b7).f3).length pF,.int .i64 ((aj aT b7).f4)] 34 (0,0))):=⟨by refine aW (cs:=#[.int .i64 ((aj aT b7).f0),.bool ((aj aT b7).f1.f0),.slice mL ((aj aT b7).f1.f1).length mM,.string ((aj aT b7).f1.f2.f0),.string ((aj aT b7).f1.f2.f1),.bool ((aj aT b7).f1.f2.f2),.slice oK ((aj aT b7).f2).length oL,.slice pE ((aj aT b7).f3).length pF,.int .i64 0]) ?_ 8 _ rfl;refine aW (cs:=#[.int .i64 ((aj aT b7).f0),.bool ((aj aT b7).f1.f0),.slice mL ((aj aT b7).f1.f1).length mM,.string ((aj aT b7).f1.f2.f0),.string ((aj aT b7).f1.f2.f1),.bool ((aj aT b7).f1.f2.f2),.slice oK ((aj aT b7).f2).length oL,.slice none 0 0,.int .i64 0]) ?_ 7 _ rfl;refine aW (cs:=#[.int .i64 ((aj aT b7).f0),.bool ((aj aT b7).f1.f0),.slice mL ((aj aT b7).f1.f1).length mM,.string ((aj aT b7).f1.f2.f0),.string ((aj aT b7).f1.f2.f1),.bool ((aj aT b7).f1.f2.f2),.slice none 0 0,.slice none 0 0,.int .i64 0]) ?_ 6 _ rfl;refine aW (cs:=#[.int .i64 ((aj aT b7).f0),.bool ((aj aT b7).f1.f0),.slice mL ((aj aT b7).f1.f1).length mM,.string ((aj aT b7).f1.f2.f0),.string ((aj aT b7).f1.f2.f1),.bool false,.slice none 0 0,.slice none 0 0,.int .i64 0]) ?_ 5 _ rfl;refine aW (cs:=#[.int .i64 ((aj aT b7).f0),.bool ((aj aT b7).f1.f0),.slice mL ((aj aT b7).f1.f1).length mM,.string ((aj aT b7).f1.f2.f0),.string (⟨#[]⟩:ByteArray),.bool false,.slice none 0 0,.slice none 0 0,.int .i64 0]) ?_ 4 _ rfl;refine aW (cs:=#[.int .i64 ((aj aT b7).f0),.bool ((aj aT b7).f1.f0),.slice mL ((aj aT b7).f1.f1).length mM,.string (⟨#[]⟩:ByteArray),.string (⟨#[]⟩:ByteArray),.bool false,.slice none 0 0,.slice none 0 0,.int .i64 0]) ?_ 3 _ rfl;refine aW (cs:=#[.int .i64 ((aj aT b7).f0),.bool ((aj aT b7).f1.f0),.slice none 0 0,.string (⟨#[]⟩:ByteArray),.string (⟨#[]⟩:ByteArray),.bool false,.slice none 0 0,.slice none 0 0,.int .i64 0]) ?_ 2 _ rfl;refine aW (cs:=#[.int .i64 ((aj aT b7).f0),.bool false,.slice none 0 0,.string (⟨#[]⟩:ByteArray),.string (⟨#[]⟩:ByteArray),.bool false,.slice none 0 0,.slice none 0 0,.int .i64 0]) ?_ 1 _ rfl;refine aW (cs:=#[.int .i64 0,.bool false,.slice none 0 0,.string (⟨#[]⟩:ByteArray),.string (⟨#[]⟩:ByteArray),.bool false,.slice none 0 0,.slice none 0 0,.int .i64 0]) ?_ 0 _ rfl;exact fy.out⟩
    have zw:ah (Below w.heap.size w (((((((((uz.setCell ⟨dh,0,none⟩ (.int .i64 ((aj aT b7).f0))).setCell ⟨dh,1,none⟩ (.bool ((aj aT b7).f1.f0))).setCell ⟨dh,2,none⟩ (.slice mL ((aj aT b7).f1.f1).length mM)).setCell ⟨dh,3,none⟩ (.string ((aj aT b7).f1.f2.f0))).setCell ⟨dh,4,none⟩ (.string ((aj aT b7).f1.f2.f1))).setCell ⟨dh,5,none⟩ (.bool ((aj aT b7).f1.f2.f2))).setCell ⟨dh,6,none⟩ (.slice oK ((aj aT b7).f2).length oL)).setCell ⟨dh,7,none⟩ (.slice pE ((aj aT b7).f3).length pF)).setCell ⟨dh,8,none⟩ (.int .i64 ((aj aT b7).f4)))):=⟨by repeat ((with_reducible first|exact HB.out|refine cC ?_ aoi.out))⟩
    generalize (((((((((uz.setCell ⟨dh,0,none⟩ (.int .i64 ((aj aT b7).f0))).setCell ⟨dh,1,none⟩ (.bool ((aj aT b7).f1.f0))).setCell ⟨dh,2,none⟩ (.slice mL ((aj aT b7).f1.f1).length mM)).setCell ⟨dh,3,none⟩ (.string ((aj aT b7).f1.f2.f0))).setCell ⟨dh,4,none⟩ (.string ((aj aT b7).f1.f2.f1))).setCell ⟨dh,5,none⟩ (.bool ((aj aT b7).f1.f2.f2))).setCell ⟨dh,6,none⟩ (.slice oK ((aj aT b7).f2).length oL)).setCell ⟨dh,7,none⟩ (.slice pE ((aj aT b7).f3).length pF)).setCell ⟨dh,8,none⟩ (.int .i64 ((aj aT b7).f4)))=U2 at jJ jK lV wW yD zw ⊢
    have gw:=jJ
    have lY:=jK
    have n9:=lV
    have jx:=wW
    have fy:=yD
    have HB:=zw
    clear jJ jK lV wW yD zw
    have jJ:=ah.mk (Kd.WO gw.out)
    have jK:=ah.mk (iR lY.out)
    have lV:=ah.mk (iR n9.out)
    have wW:=ah.mk (iR jx.out)
    have yD:=ah.mk (iR fy.out)
    have zw:=ah.mk (gG HB.out)
    clear gw
    clear lY
    clear n9
    clear jx
    clear fy
    clear HB
    have gw:=jJ
    have lY:=jK
    have n9:=lV
    have jx:=wW
    have fy:=yD
    have HB:=zw
    clear jJ jK lV wW yD zw
    refine lU (n:=8) (S:=fun w'=>w'.cell? ⟨pJ,0,none⟩=some (.int .i64 bu)∧w'.cell? ⟨pJ,1,none⟩=some (lu)∧w'.cell? ⟨dh,0,none⟩=some (.int .i64 ((aj aT b7).f0))∧w'.cell? ⟨dh,1,none⟩=some (.bool ((aj aT b7).f1.f0))∧w'.cell? ⟨dh,2,none⟩=some (.slice mL ((aj aT b7).f1.f1).length mM)∧w'.cell? ⟨dh,3,none⟩=some (.string ((aj aT b7).f1.f2.f0))∧w'.cell? ⟨dh,4,none⟩=some (.string ((aj aT b7).f1.f2.f1))∧w'.cell? ⟨dh,5,none⟩=some (.bool ((aj aT b7).f1.f2.f2))∧w'.cell? ⟨dh,6,none⟩=some (.slice oK ((aj aT b7).f2).length oL)∧w'.cell? ⟨dh,7,none⟩=some (.slice pE ((aj aT b7).f3).length pF)∧w'.cell? ⟨dh,8,none⟩=some (.int .i64 ((aj aT b7).f4))) (ds:=[7]) #[false,false,false,false,false,false,false,false] au (by rfl) (by rfl) ⟨(af jx.out 0).trans rfl,(af jx.out 1).trans rfl,(af fy.out 0).trans rfl,(af fy.out 1).trans rfl,(af fy.out 2).trans rfl,(af fy.out 3).trans rfl,(af fy.out 4).trans rfl,(af fy.out 5).trans rfl,(af fy.out 6).trans rfl,(af fy.out 7).trans rfl,(af fy.out 8).trans rfl⟩ (fun hHeld=>?_);refine lG cF.aDM cF.aoe (fun dL sJ=>?_)
    generalize U2.drew=Y1 at gw lY n9 jx fy HB hHeld ⊢
    refine aQ (i:=0) (N:=some 16) #[true,false,false,false,false,false,false,false] rfl rfl (br dL.out au) (fun _ _ _ h=>h) (Or.inl ⟨by rfl,cJ⟩) rfl ?_
    refine gv (i:=1) (N:=some 17) #[true,true,false,false,false,false,false,false] rfl rfl (fK dL.out sJ.out au) (fun _ _ _ h=>h) (Or.inl ⟨by rfl,PS⟩) hHeld rfl ?_
    refine gv (i:=2) (N:=some 18) #[true,true,true,false,false,false,false,false] rfl rfl (fK dL.out sJ.out au) (fun _ _ _ h=>h) (Or.inl ⟨by rfl,PS⟩) hHeld rfl ?_
    refine pq (i:=3) (N:=some 19) #[true,true,true,true,false,false,false,false] rfl rfl (kF dL.out au) bC (fun K hK=>?_)
    refine mH Tryz.func72 au rfl #[.agg #[.int .i64 ((aj aT b7).f0),.bool ((aj aT b7).f1.f0),.slice mL ((aj aT b7).f1.f1).length mM,.string ((aj aT b7).f1.f2.f0),.string ((aj aT b7).f1.f2.f1),.bool ((aj aT b7).f1.f2.f2),.slice oK ((aj aT b7).f2).length oL,.slice pE ((aj aT b7).f3).length pF,.int .i64 ((aj aT b7).f4)]] (by rfl) rfl rfl dM ?_
    with_reducible refine (iZ.calls ((aj aT b7).f0) ((aj aT b7).f1.f0) _ _ ((aj aT b7).f1.f1) ((aj aT b7).f1.f2.f0) ((aj aT b7).f1.f2.f1) ((aj aT b7).f1.f2.f2) _ _ ((aj aT b7).f2) _ _ ((aj aT b7).f3) ((aj aT b7).f4) t117 t118 t119 t122 t123 t124 t125 t128 t131 _ ?bk ?bI ?cO ?ey ?gz ?gA A14.out).mono ?_
    (case bk=>repeat (exact (Kd.bU adq.out HB.out)))
    (case bI=>exact adr.out)
    (case cO=>repeat (exact (Kd.bU ads.out HB.out)))
    (case ey=>exact adt.out)
    (case gz=>repeat (exact (Kd.bU adu.out HB.out)))
    (case gA=>exact adv.out)
    rintro e sI ⟨aKg,aKh,aKi,rfl,ho0,GF,F7,hb⟩
    refine ⟨_,rfl,?_⟩
    have jJ:=ah.mk (Kd.dG (Kd.kG (Kd.kG (Kd.kG (Kd.zV (by exact gw.out) hb) (Kd.fQ ho0)) (Kd.fQ GF)) (Kd.fQ F7)) (fun _ h_ =>h_.1))
    have jK:=ah.mk (Kd.dY ho0 (bV aI))
    have lV:=ah.mk (Kd.dY GF (bV aI))
    have wW:=ah.mk (Kd.dY F7 (bV aI))
    have yD:=ah.mk (az (g:=rI) (o:= .cells #[.int .i64 bu,.slice (some Yb) aT.length jA] 40 (0,0)) zJ hb)
    have zw:=ah.mk (az (g:=qZ) (o:= .cells #[.int .i64 0,.slice none 0 0] 40 (0,0)) sX hb)
    have Mx:=ah.mk (az (g:=pJ) (o:= .cells #[.int .i64 bu,lu] 40 (0,0)) (by exact jx.out) hb)
    have TF:=ah.mk (az (g:=dh) (o:= .cells #[.int .i64 ((aj aT b7).f0),.bool ((aj aT b7).f1.f0),.slice mL ((aj aT b7).f1.f1).length mM,.string ((aj aT b7).f1.f2.f0),.string ((aj aT b7).f1.f2.f1),.bool ((aj aT b7).f1.f2.f2),.slice oK ((aj aT b7).f2).length oL,.slice pE ((aj aT b7).f3).length pF,.int .i64 ((aj aT b7).f4)] 34 (0,0)) (by exact fy.out) hb)
    have Yc:=ah.mk (av aI hb)
    clear gw
    clear lY
    clear n9
    clear jx
    clear fy
    clear HB
    have gw:=jJ
    have TG:=jK
    have TH:=lV
    have TI:=wW
    have lY:=yD
    have n9:=zw
    have jx:=Mx
    have fy:=TF
    have HB:=Yc
    clear jJ jK lV wW yD zw Mx TF Yc
    obtain ⟨U4,U5,XH⟩:=Kd.dF TG.out
    (subst XH)
    obtain ⟨aoj,aok,aDO⟩:=Kd.dF TH.out
    (subst aDO)
    obtain ⟨nC,kS,ahu⟩:=Kd.dF TI.out
    (subst ahu)
    refine hK.out _ _ ⟨(af jx.out 0).trans rfl,(af jx.out 1).trans rfl,(af fy.out 0).trans rfl,(af fy.out 1).trans rfl,(af fy.out 2).trans rfl,(af fy.out 3).trans rfl,(af fy.out 4).trans rfl,(af fy.out 5).trans rfl,(af fy.out 6).trans rfl,(af fy.out 7).trans rfl,(af fy.out 8).trans rfl⟩ (fun hHeld=>?_)
    clear hK K
    refine kX (a':=?_) ?_ ?_
    rotate_left
    ·show Act.put _ (some 19) _=_
     simp only [Act.put,List.setIfInBounds_toArray,List.set_cons_zero,List.set_cons_succ,aY,aZ]
     rfl
    refine pq (i:=4) (N:=some 20) #[true,true,true,true,true,false,false,false] rfl rfl (kF dL.out au) bC (fun K hK=>?_)
    refine WJ (w1:=?_) (v:=?_) (by rfl) rfl ?_ ?_
    rotate_left 2
    ·go_simp
     constructor
     ·rfl
     ·rfl
    refine hK.out _ _ ⟨(af (iq jx.out _) 0).trans rfl,(af (iq jx.out _) 1).trans rfl,(af (iq fy.out _) 0).trans rfl,(af (iq fy.out _) 1).trans rfl,(af (iq fy.out _) 2).trans rfl,(af (iq fy.out _) 3).trans rfl,(af (iq fy.out _) 4).trans rfl,(af (iq fy.out _) 5).trans rfl,(af (iq fy.out _) 6).trans rfl,(af (iq fy.out _) 7).trans rfl,(af (iq fy.out _) 8).trans rfl⟩ (fun hHeld=>?_)
    clear hK K
    refine kX (a':=?_) ?_ ?_
    rotate_left
    ·show Act.put _ (some 20) _=_
     simp only [Act.put,List.setIfInBounds_toArray,List.set_cons_zero,List.set_cons_succ,aY,aZ]
     rfl
    refine pq (i:=5) (N:=some 21) #[true,true,true,true,true,true,false,false] rfl rfl (kF dL.out au) bC (fun K hK=>?_)
    refine Kd.yI Bz (w0:=w) w.heap.size (by rfl) (.tmp 17) (.tmp 20) 38 34 (.agg #[(.int .i64 0),(.bool false),(.slice none 0 0),(.string ⟨#[]⟩),(.string ⟨#[]⟩),(.bool false),(.slice none 0 0),(.slice none 0 0),(.int .i64 0)]) 136 rfl Tryz.underlying38 afT rfl bC aA lu pK (⟨t117,(⟨t118,t119,(⟨t122,t123,t124⟩:GI)⟩:VS),t125,t128,t131⟩:pO) [.int .i64 t117,.bool t118,.slice U4 t119.length U5,.string t122,.string t123,.bool t124,.slice aoj t125.length aok,.slice nC t128.length kS,.int .i64 t131] (fun k_ =>k_≠dh) (fun k_ =>some k_=(.slice U4 t119.length U5:Value).ownBlock∨some k_=(.slice aoj t125.length aok:Value).ownBlock∨some k_=(.slice nC t128.length kS:Value).ownBlock) rfl rfl ?aP (fun k_ hk_ =>hk_.elim (fun h_ =>((Kd.cB (ok':=fun k_ =>((fun k_ =>k_≠dh)) k_∧some k_≠(lu:Value).ownBlock) (Kd.cS (Kd.ux (TG.out) (Kd.xZ gw.out) bC) fy.out bC) (fun k_ hk=>⟨hk.2,hk.1.2⟩))).1 k_ h_.symm) (fun h_ =>h_.elim (fun h_ =>((Kd.cB (ok':=fun k_ =>((fun k_ =>k_≠dh)) k_∧some k_≠(lu:Value).ownBlock) (Kd.cS (Kd.ux (TH.out) (Kd.xZ gw.out) bC) fy.out bC) (fun k_ hk=>⟨hk.2,hk.1.2⟩))).1 k_ h_.symm) (fun h_ =>((Kd.cB (ok':=fun k_ =>((fun k_ =>k_≠dh)) k_∧some k_≠(lu:Value).ownBlock) (Kd.cS (Kd.ux (TI.out) (Kd.xZ gw.out) bC) fy.out bC) (fun k_ hk=>⟨hk.2,hk.1.2⟩))).1 k_ h_.symm))) ?aF ?aO ?aB ?aS ?aL ?_
    (case aP=>exact IA _ _ _ (⟨t117,(⟨t118,t119,(⟨t122,t123,t124⟩:GI)⟩:VS),t125,t128,t131⟩:pO) (Kd.cB (Kd.zU rfl (Kd.cB (ok':=fun k_ =>((fun k_ =>k_≠dh)) k_∧some k_≠(lu:Value).ownBlock) (Kd.cS (Kd.ux (TG.out) (Kd.xZ gw.out) bC) fy.out bC) (fun k_ hk=>⟨hk.2,hk.1.2⟩))) (fun _ h_ =>Or.inl h_)) (Kd.cB (Kd.zU rfl (Kd.cB (ok':=fun k_ =>((fun k_ =>k_≠dh)) k_∧some k_≠(lu:Value).ownBlock) (Kd.cS (Kd.ux (TH.out) (Kd.xZ gw.out) bC) fy.out bC) (fun k_ hk=>⟨hk.2,hk.1.2⟩))) (fun _ h_ =>Or.inr (Or.inl h_))) (Kd.cB (Kd.zU rfl (Kd.cB (ok':=fun k_ =>((fun k_ =>k_≠dh)) k_∧some k_≠(lu:Value).ownBlock) (Kd.cS (Kd.ux (TI.out) (Kd.xZ gw.out) bC) fy.out bC) (fun k_ hk=>⟨hk.2,hk.1.2⟩))) (fun _ h_ =>Or.inr (Or.inr (h_)))))
    (case aB=>exact aI)
    (case aF=>exact (fun k_ hk=>Kd.afJ (g:=dh) (o:= .cells #[.int .i64 ((aj aT b7).f0),.bool ((aj aT b7).f1.f0),.slice mL ((aj aT b7).f1.f1).length mM,.string ((aj aT b7).f1.f2.f0),.string ((aj aT b7).f1.f2.f1),.bool ((aj aT b7).f1.f2.f2),.slice oK ((aj aT b7).f2).length oL,.slice pE ((aj aT b7).f3).length pF,.int .i64 ((aj aT b7).f4)] 34 (0,0)) (by exact fy.out) k_ hk))
    (case aO=>exact (by exact Kd.dG gw.out (fun k_ hk=>⟨hk.1.1.1,fun e_ =>e_.elim (fun h_ =>hk.1.1.2 h_) (fun h_ =>h_.elim (fun h_ =>hk.1.2 h_) (fun h_ =>hk.2 h_))⟩)))
    (case aS=>exact (bV aI))
    (case aL=>have:=aog.out;omega)
    intro aKj zk ho hb hg hat
    rw [← aoh.out] at ho
    have jJ:=ah.mk (fU (g:=rI) (o:= .cells #[.int .i64 bu,.slice (some Yb) aT.length jA] 40 (0,0)) zJ hg (Kd.NS gw.out lY.out bC))
    have jK:=ah.mk (fU (g:=qZ) (o:= .cells #[.int .i64 0,.slice none 0 0] 40 (0,0)) sX hg (Kd.NS gw.out n9.out bC))
    have lV:=ah.mk (fU (g:=pJ) (o:= .cells #[.int .i64 bu,lu] 40 (0,0)) (by exact jx.out) hg (Kd.NS gw.out jx.out bC))
    have wW:=ah.mk (fU (g:=dh) (o:= .cells #[.int .i64 ((aj aT b7).f0),.bool ((aj aT b7).f1.f0),.slice mL ((aj aT b7).f1.f1).length mM,.string ((aj aT b7).f1.f2.f0),.string ((aj aT b7).f1.f2.f1),.bool ((aj aT b7).f1.f2.f2),.slice oK ((aj aT b7).f2).length oL,.slice pE ((aj aT b7).f3).length pF,.int .i64 ((aj aT b7).f4)] 34 (0,0)) (by exact fy.out) hg (Kd.afO gw.out (fun _ hk=>hk.1.1.1)))
    have yD:=ah.mk (hb)
    have zw:=ah.mk (ho)
    clear lY
    clear n9
    clear jx
    clear fy
    clear HB
    clear gw
    clear TG
    clear TH
    clear TI
    have lY:=jJ
    have n9:=jK
    have jx:=lV
    have fy:=wW
    have HB:=yD
    have afa:=zw
    clear jJ jK lV wW yD zw
    clear ho hb hg hat
    obtain ⟨ach,aci,ag8⟩:=Kd.gP afa.out
    (subst ag8)
    refine hK.out _ _ ⟨(af jx.out 0).trans rfl,(af jx.out 1).trans rfl,(af fy.out 0).trans rfl,(af fy.out 1).trans rfl,(af fy.out 2).trans rfl,(af fy.out 3).trans rfl,(af fy.out 4).trans rfl,(af fy.out 5).trans rfl,(af fy.out 6).trans rfl,(af fy.out 7).trans rfl,(af fy.out 8).trans rfl⟩ (fun hHeld=>?_)
    clear hK K
    refine kX (a':=?_) ?_ ?_
    rotate_left
    ·show Act.put _ (some 21) _=_
     simp only [Act.put,List.setIfInBounds_toArray,List.set_cons_zero,List.set_cons_succ,aY,aZ]
     rfl
    refine aQ (i:=6) (N:=some 22) #[true,true,true,true,true,true,true,false] rfl rfl (br dL.out au) (fun _ _ _ h=>h) (Or.inl ⟨by rfl,cJ⟩) rfl ?_
    refine LM (i:=7) (N:=none) #[true,true,true,true,true,true,true,true] rfl rfl (kF dL.out au) bC (fun K hK=>?_)
    have aKk:zk.cell? ⟨pJ,1,none⟩=some (lu):=(af jx.out 1).trans rfl
    have aGt:=aa jx.out 1
    have aAh:=rV.out
    have aAi:=rW.out
    have aAj:=GW.out
    have aAk:=BS.out
    have aAl:=BU.out
    have aAm:=mN.out
    refine LN (w1:=?_) (by rfl) rfl ?_ ?_
    rotate_left
    ·go_simp
     rfl
    refine hK.out _ _ ?_
    clear hK K
    refine oU (o7 dL.out au) ?_
    try go_wp2
    go_roundg k1
    case measure=>have:=oI.out;omega
    case rel=>exact ⟨(wrap64 (b7 + 1)),(adp),(.slice ach adp.length aci),(by rfl),H',⟨lS⟩,⟨by exact Kd.dG (Kd.bS (p:=⟨pJ,1,none⟩) (Kd.fN afa.out jx.out bC) (fun _ hk=>hk.2) (.slice ach adp.length aci)) (fun _ hk=>trivial)⟩,⟨by refine aR ?_ rV.out _;exact lY.out⟩,⟨by refine aR ?_ rW.out _;exact n9.out⟩,⟨by refine aW (cs:=#[.int .i64 bu,lu]) ?_ 1 _ rfl;exact jx.out⟩,⟨PV⟩⟩
   ·rw [if_neg c11] at H
    have EX:=decide_eq_false c11
    clear c11
    simp only [Option.some.injEq,Prod.mk.injEq] at H
    obtain ⟨rfl,rfl⟩:=H
    have aeQ:=BS.out
    have aeR:=rV.out
    have aGu:=BU.out
    have aGv:=rW.out
    have aAn:wr.cell? ⟨pJ,0,none⟩=some (.int .i64 bu):=(af jx.out 0).trans rfl
    have aAo:wr.cell? ⟨pJ,1,none⟩=some (lu):=(af jx.out 1).trans rfl
    have aAp:=aa jx.out 0
    have aAq:=aa jx.out 1
    have aGw:=GV.out
    have aGx:=GU.out
    have ZB:wr.cell? ⟨qZ,0,none⟩=some (.int .i64 0):=(af n9.out 0).trans rfl
    have ZC:wr.cell? ⟨qZ,1,none⟩=some (.slice none 0 0):=(af n9.out 1).trans rfl
    have ZE:=aa n9.out 0
    have ZF:=aa n9.out 1
    obtain ⟨Kr,Ks,ahv⟩:=Kd.gP gw.out
    subst ahv
    go_wp2
    refine bodyPost_ret (results_cell_row rfl _ _ qZ 40 #[.int .i64 bu,.slice Kr pK.length Ks] (0,0) _ rfl (by refine aW (cs:=#[.int .i64 bu,.slice none 0 0]) ?_ 1 _ rfl;refine aW (cs:=#[.int .i64 0,.slice none 0 0]) ?_ 0 _ rfl;exact n9.out) Tryz.underlying40 rfl au) rfl ?_
    exact ⟨_,by rfl,by exact Kd.dG (Kd.bS (p:=⟨qZ,1,none⟩) (Kd.bS (p:=⟨qZ,0,none⟩) (Kd.fN gw.out n9.out bC) (fun _ hk=>hk.2) (.int .i64 bu)) (fun _ hk=>hk.2) (.slice Kr pK.length Ks)) (fun _ hk=>trivial),by repeat ((with_reducible first|exact HB.out|refine cC ?_ aof.out))⟩
end Go.Proofs.YtbjjaaodfbjkfaaGreatDoor.ow
