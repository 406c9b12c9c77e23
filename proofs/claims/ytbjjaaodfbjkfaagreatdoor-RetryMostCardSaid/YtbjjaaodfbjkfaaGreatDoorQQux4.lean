import Derived.Test.YtbjjaaodfbjkfaaGreatDoorESlim
import Derived.Test.YtbjjaaodfbjkfaaGreatDoorEClone
set_option maxHeartbeats 8000000
set_option maxRecDepth 100000
namespace Go.Proofs.YtbjjaaodfbjkfaaGreatDoor.qb
open Go.RowKit Go.Proofs.YtbjjaaodfbjkfaaGreatDoor.xI Go.Proofs.aj.bQ Go.Proofs.aj.dX Go.Proofs.aj.dJ
attribute [local go_sem] jT jU lF lG iX iY jV jW
set_option linter.unusedVariables false
set_option linter.unusedSimpArgs false
def iB.f (bB:Int) (b7:Bool) (dD:List ByteArray) (bM:ByteArray) (bS:ByteArray) (cr:Bool) (cw:List (iN)) (dI:List Int) (cx:Int):Option (Int×Bool×List ByteArray×ByteArray×ByteArray×Bool×(List (iN))×List Int×Int):=(eH.f dD).bind fun t120=>((dR.f cw).bind fun t123=>((fR.f dI).bind fun t126=>(some (bB,b7,t120,bM,bS,cr,t123,t126,cx))))
def iB.T1:Bool×List (List Nat×List Nat):=(true,[([],[]),([0],[0]),([1],[1]),([2],[2]),([],[]),([4],[4]),([5,3],[5]),([],[]),([7],[7]),([8,6],[8]),([0,1,2,3,4,5,7,8],[]),([10,0,1,2,3,4,5,7,8],[10]),([11,3,9,0,1,2,3,4,5,7,8],[3,11]),([0,1,2,3,4,5,6,7,8,10,11,12],[]),([13,6,12,0,1,2,3,4,5,6,7,8,10,11,12],[6,13]),([0,1,2,3,4,5,6,7,8,9,10,11,12,13,14],[]),([15,9,14,0,1,2,3,4,5,6,7,8,9,10,11,12,13,14],[9,15])])
def iB.B1:List Nat:=[0,1,3,7,0,16,63,0,128,511,447,1471,4095,8191,16383,32767,65535]
theorem iB.aBS:pO .any (opsOf Tryz.f72 1)=iB.T1:=by kernel_rfl
theorem iB.aiY:ql iB.T1.2 iB.B1=true:=by kernel_rfl
theorem iB.calls (bB:Int) (b7:Bool) (fC:Option Addr) (fD:Nat) (dD:List ByteArray) (bM:ByteArray) (bS:ByteArray) (cr:Bool) (dL:Option Addr) (dM:Nat) (cw:List (iN)) (fE:Option Addr) (fF:Nat) (dI:List Int) (cx:Int) (r1:Int) (r2:Bool) (r3:List ByteArray) (r4:ByteArray) (r5:ByteArray) (r6:Bool) (r7:List (iN)) (r8:List Int) (r9:Int) (w:World) (wG:Kd.C Kd.string w fC dD.length dD) (wH:dD.length≤fD) (rG:Kd.C mV w dL cw.length cw) (sH:cw.length≤dM) (wI:Kd.C (Kd.int .u8) w fE dI.length dI) (wJ:dI.length≤fF) (h:iB.f bB b7 dD bM bS cr cw dI cx=some (r1,r2,r3,r4,r5,r6,r7,r8,r9)):
 Calls Tryz.prog 72 #[.agg #[.int .i64 bB,.bool b7,.slice fC dD.length fD,.string bM,.string bS,.bool cr,.slice dL cw.length dM,.slice fE dI.length fF,.int .i64 cx]] w fun e w'=>∃ v2_ Pf v7_:Value,e= .returned (.agg #[.int .i64 r1,.bool r2,v2_,.string r4,.string r5,.bool r6,Pf,v7_,.int .i64 r9])∧Kd.R Kd.string 9 w' w.heap.size (fun _ =>True) v2_ r3∧Kd.R mV 37 w' w.heap.size (fun _ =>True) Pf r7∧Kd.R (Kd.int .u8) 5 w' w.heap.size (fun _ =>True) v7_ r8∧Below w.heap.size w w':=by
 have Dg:=Tryz.underlying34
 have sL:=ah.mk wG
 have sM:=ah.mk wH
 clear wG wH
 have sN:=ah.mk rG
 have sO:=ah.mk sH
 clear rG sH
 have Sa:=ah.mk wI
 have Sb:=ah.mk wJ
 clear wI wJ
 have HB:=ah.mk (Below.refl w.heap.size w)
 have H:((eH.f dD).bind fun t120=>((dR.f cw).bind fun t123=>((fR.f dI).bind fun t126=>(some (bB,b7,t120,bM,bS,cr,t123,t126,cx)))))=some (r1,r2,r3,r4,r5,r6,r7,r8,r9):=h
 clear h
 obtain ⟨t120,A2,H⟩:=bd_ H
 obtain ⟨t123,A3,H⟩:=bd_ H
 obtain ⟨t126,A4,H⟩:=bd_ H
 simp only [Option.some.injEq,Prod.mk.injEq] at H
 obtain ⟨rfl,rfl,rfl,rfl,rfl,rfl,rfl,rfl,rfl⟩:=H
 go_enter Tryz.func72,Tryz.ntmps72
 try go_wp2_with (first|((with_reducible refine bI (N:=1) rfl ?_);refine bR ?hg (N:=1) ?hd (cs:=#[.int .i64 bB,.bool b7,.slice fC dD.length fD,.string bM,.string bS,.bool cr,.slice dL cw.length dM,.slice fE dI.length fF,.int .i64 cx]) (t:=34) ?hr ?_;(case hd=>rfl);(case hg=>rfl);(case hr=>(go_simp;done));intro iV hg w5 b9 hb;have dP:=ah.mk (b9);have aGf:=ah.mk ((bZ:w.heap.size≤iV));have aiZ:=ah.mk ((bZ:w.heap.size≤iV));replace HB:=ah.mk (aA aD hb);clear hb b9 hg)|((with_reducible refine bI (N:=2) rfl ?_);refine bR ?hg (N:=2) ?hd (cs:=#[.int .i64 0,.bool false,.slice none 0 0,.string (⟨#[]⟩:ByteArray),.string (⟨#[]⟩:ByteArray),.bool false,.slice none 0 0,.slice none 0 0,.int .i64 0]) (t:=34) ?hr ?_;(case hd=>rfl);(case hg=>rfl);(case hr=>(go_simp;done));intro gK hg w6 b9 hb;have jf:=ah.mk (b9);have aGg:=ah.mk ((bZ:w.heap.size≤gK));have ai0:=ah.mk ((bZ:w.heap.size≤gK));replace HB:=ah.mk (aA aD hb);have wh:=ah.mk ((by rw [hg];exact Nat.ne_of_lt (fu vU):iV≠gK));have pH:=ah.mk ((by rw [hg];exact Nat.ne_of_gt (fu vU):gK≠iV));replace dP:=ah.mk (aC vU hb);clear hb b9 hg))
 have jF:=ah.mk (ng dP.out)
 have jG:=ah.mk (ng jf.out)
 have mA:=ah.mk (jI HB.out)
 clear dP
 clear jf
 clear HB
 have dP:=jF
 have jf:=jG
 have HB:=mA
 clear jF jG mA
 refine uN (n:=17) (S:=fun w'=>w'.cell? ⟨iV,0,none⟩=some (.int .i64 bB)∧w'.cell? ⟨iV,1,none⟩=some (.bool b7)∧w'.cell? ⟨iV,2,none⟩=some (.slice fC dD.length fD)∧w'.cell? ⟨iV,3,none⟩=some (.string bM)∧w'.cell? ⟨iV,4,none⟩=some (.string bS)∧w'.cell? ⟨iV,5,none⟩=some (.bool cr)∧w'.cell? ⟨iV,6,none⟩=some (.slice dL cw.length dM)∧w'.cell? ⟨iV,7,none⟩=some (.slice fE dI.length fF)∧w'.cell? ⟨iV,8,none⟩=some (.int .i64 cx)) (ds:=[12,14,16]) #[false,false,false,false,false,false,false,false,false,false,false,false,false,false,false,false,false] aR (by rfl) (by rfl) ⟨(af dP.out 0).trans rfl,(af dP.out 1).trans rfl,(af dP.out 2).trans rfl,(af dP.out 3).trans rfl,(af dP.out 4).trans rfl,(af dP.out 5).trans rfl,(af dP.out 6).trans rfl,(af dP.out 7).trans rfl,(af dP.out 8).trans rfl⟩ (fun hHeld=>?_);refine pz iB.aBS iB.aiY (fun iG Cs=>?_)
 generalize w6.drew=w7 at dP jf HB hHeld ⊢
 refine dS (i:=0) (N:=some 3) #[true,false,false,false,false,false,false,false,false,false,false,false,false,false,false,false,false] rfl rfl (cY iG.out aR) (fun _ _ _ h=>h) (Or.inl ⟨by rfl,ez⟩) rfl ?_
 refine dS (i:=1) (N:=some 4) #[true,true,false,false,false,false,false,false,false,false,false,false,false,false,false,false,false] rfl rfl (cY iG.out aR) (fun _ _ _ h=>h) (Or.inl ⟨by rfl,ez⟩) rfl ?_
 refine dS (i:=4) (N:=some 7) #[true,true,false,false,true,false,false,false,false,false,false,false,false,false,false,false,false] rfl rfl (cY iG.out aR) (fun _ _ _ h=>h) (Or.inl ⟨by rfl,ez⟩) rfl ?_
 refine dS (i:=7) (N:=some 10) #[true,true,false,false,true,false,false,true,false,false,false,false,false,false,false,false,false] rfl rfl (cY iG.out aR) (fun _ _ _ h=>h) (Or.inl ⟨by rfl,ez⟩) rfl ?_
 refine nL (i:=2) (N:=some 5) #[true,true,true,false,true,false,false,true,false,false,false,false,false,false,false,false,false] rfl rfl (jS iG.out Cs.out aR) (fun _ _ _ h=>h) (Or.inl ⟨by rfl,CQ⟩) hHeld rfl ?_
 refine nL (i:=5) (N:=some 8) #[true,true,true,false,true,true,false,true,false,false,false,false,false,false,false,false,false] rfl rfl (jS iG.out Cs.out aR) (fun _ _ _ h=>h) (Or.inl ⟨by rfl,CQ⟩) hHeld rfl ?_
 refine nL (i:=8) (N:=some 11) #[true,true,true,false,true,true,false,true,true,false,false,false,false,false,false,false,false] rfl rfl (jS iG.out Cs.out aR) (fun _ _ _ h=>h) (Or.inl ⟨by rfl,CQ⟩) hHeld rfl ?_
 refine rW (i:=3) (N:=some 6) #[true,true,true,true,true,true,false,true,true,false,false,false,false,false,false,false,false] rfl rfl (ko iG.out aR) bE (fun K hK=>?_)
 refine pN Tryz.func119 aR rfl #[.slice fC dD.length fD] (by rfl) rfl rfl dc ?_
 with_reducible refine (eH.calls _ _ dD t120 _ ?aX ?bF A2.out).mono ?_
 (case aX=>repeat (exact (Kd.bG sL.out HB.out)))
 (case bF=>exact sM.out)
 rintro e w8 ⟨aJa,rfl,ho0,hb⟩
 refine ⟨_,rfl,?_⟩
 have jF:=ah.mk (Kd.cN ho0 (bL aD))
 have jG:=ah.mk (aC (g:=iV) (o:= .cells #[.int .i64 bB,.bool b7,.slice fC dD.length fD,.string bM,.string bS,.bool cr,.slice dL cw.length dM,.slice fE dI.length fF,.int .i64 cx] 34 (0,0)) vU hb)
 have mA:=ah.mk (aC (g:=gK) (o:= .cells #[.int .i64 0,.bool false,.slice none 0 0,.string (⟨#[]⟩:ByteArray),.string (⟨#[]⟩:ByteArray),.bool false,.slice none 0 0,.slice none 0 0,.int .i64 0] 34 (0,0)) (by exact jf.out) hb)
 have nG:=ah.mk (aA aD hb)
 clear dP
 clear jf
 clear HB
 have zW:=jF
 have dP:=jG
 have jf:=mA
 have HB:=nG
 clear jF jG mA nG
 refine hK.out _ _ ⟨(af dP.out 0).trans rfl,(af dP.out 1).trans rfl,(af dP.out 2).trans rfl,(af dP.out 3).trans rfl,(af dP.out 4).trans rfl,(af dP.out 5).trans rfl,(af dP.out 6).trans rfl,(af dP.out 7).trans rfl,(af dP.out 8).trans rfl⟩ (fun hHeld=>?_)
 clear hK K
 refine kI (a':=?_) ?_ ?_
 rotate_left
 ·show Act.put _ (some 6) _=_
  simp only [Act.put,List.setIfInBounds_toArray,List.set_cons_zero,List.set_cons_succ,fU,gj]
  rfl
 refine dS (i:=10) (N:=some 13) #[true,true,true,true,true,true,false,true,true,false,true,false,false,false,false,false,false] rfl rfl (cY iG.out aR) (fun _ _ _ h=>h) (Or.inl ⟨by rfl,ez⟩) rfl ?_
 refine dS (i:=11) (N:=some 14) #[true,true,true,true,true,true,false,true,true,false,true,true,false,false,false,false,false] rfl rfl (cY iG.out aR) (fun _ _ _ h=>h) (Or.inl ⟨by rfl,ez⟩) rfl ?_
 refine rW (i:=6) (N:=some 9) #[true,true,true,true,true,true,true,true,true,false,true,true,false,false,false,false,false] rfl rfl (ko iG.out aR) bE (fun K hK=>?_)
 refine pN Tryz.func120 aR rfl #[.slice dL cw.length dM] (by rfl) rfl rfl dc ?_
 with_reducible refine (dR.calls _ _ cw t123 _ ?aX ?bF A3.out).mono ?_
 (case aX=>repeat (exact (Kd.bG sN.out HB.out)))
 (case bF=>exact sO.out)
 rintro e w9 ⟨v124,rfl,ho0,hb⟩
 refine ⟨_,rfl,?_⟩
 have jF:=ah.mk (Kd.aM (by exact zW.out) hb)
 have jG:=ah.mk (Kd.cN ho0 (bL aD))
 have mA:=ah.mk (aC (g:=iV) (o:= .cells #[.int .i64 bB,.bool b7,.slice fC dD.length fD,.string bM,.string bS,.bool cr,.slice dL cw.length dM,.slice fE dI.length fF,.int .i64 cx] 34 (0,0)) vU hb)
 have nG:=ah.mk (aC (g:=gK) (o:= .cells #[.int .i64 0,.bool false,.slice none 0 0,.string (⟨#[]⟩:ByteArray),.string (⟨#[]⟩:ByteArray),.bool false,.slice none 0 0,.slice none 0 0,.int .i64 0] 34 (0,0)) (by exact jf.out) hb)
 have nU:=ah.mk (aA aD hb)
 clear zW
 clear dP
 clear jf
 clear HB
 have zW:=jF
 have Il:=jG
 have dP:=mA
 have jf:=nG
 have HB:=nU
 clear jF jG mA nG nU
 refine hK.out _ _ ⟨(af dP.out 0).trans rfl,(af dP.out 1).trans rfl,(af dP.out 2).trans rfl,(af dP.out 3).trans rfl,(af dP.out 4).trans rfl,(af dP.out 5).trans rfl,(af dP.out 6).trans rfl,(af dP.out 7).trans rfl,(af dP.out 8).trans rfl⟩ (fun hHeld=>?_)
 clear hK K
 refine kI (a':=?_) ?_ ?_
 rotate_left
 ·show Act.put _ (some 9) _=_
  simp only [Act.put,List.setIfInBounds_toArray,List.set_cons_zero,List.set_cons_succ,fU,gj]
  rfl
 refine rW (i:=9) (N:=some 12) #[true,true,true,true,true,true,true,true,true,true,true,true,false,false,false,false,false] rfl rfl (ko iG.out aR) bE (fun K hK=>?_)
 refine pN Tryz.func121 aR rfl #[.slice fE dI.length fF] (by rfl) rfl rfl dc ?_
 with_reducible refine (fR.calls _ _ dI t126 _ ?aX ?bF A4.out).mono ?_
 (case aX=>repeat (exact (Kd.bG Sa.out HB.out)))
 (case bF=>exact Sb.out)
 rintro e sI ⟨v127,rfl,ho0,hb⟩
 refine ⟨_,rfl,?_⟩
 have jF:=ah.mk (Kd.aM (by exact zW.out) hb)
 have jG:=ah.mk (Kd.aM (by exact Il.out) hb)
 have mA:=ah.mk (Kd.cN ho0 (bL aD))
 have nG:=ah.mk (aC (g:=iV) (o:= .cells #[.int .i64 bB,.bool b7,.slice fC dD.length fD,.string bM,.string bS,.bool cr,.slice dL cw.length dM,.slice fE dI.length fF,.int .i64 cx] 34 (0,0)) vU hb)
 have nU:=ah.mk (aC (g:=gK) (o:= .cells #[.int .i64 0,.bool false,.slice none 0 0,.string (⟨#[]⟩:ByteArray),.string (⟨#[]⟩:ByteArray),.bool false,.slice none 0 0,.slice none 0 0,.int .i64 0] 34 (0,0)) (by exact jf.out) hb)
 have oV:=ah.mk (aA aD hb)
 clear zW
 clear Il
 clear dP
 clear jf
 clear HB
 have zW:=jF
 have Il:=jG
 have ab4:=mA
 have dP:=nG
 have jf:=nU
 have HB:=oV
 clear jF jG mA nG nU oV
 obtain ⟨wY,wZ,adS⟩:=Kd.cM zW.out
 (subst adS)
 obtain ⟨Fj,Fk,aBT⟩:=Kd.cM Il.out
 (subst aBT)
 obtain ⟨qK,qL,Sc⟩:=Kd.cM ab4.out
 (subst Sc)
 refine hK.out _ _ ⟨(af dP.out 0).trans rfl,(af dP.out 1).trans rfl,(af dP.out 2).trans rfl,(af dP.out 3).trans rfl,(af dP.out 4).trans rfl,(af dP.out 5).trans rfl,(af dP.out 6).trans rfl,(af dP.out 7).trans rfl,(af dP.out 8).trans rfl⟩ (fun hHeld=>?_)
 clear hK K
 refine kI (a':=?_) ?_ ?_
 rotate_left
 ·show Act.put _ (some 12) _=_
  simp only [Act.put,List.setIfInBounds_toArray,List.set_cons_zero,List.set_cons_succ,fU,gj]
  rfl
 refine Hz (i:=12) (N:=none) #[true,true,true,true,true,true,true,true,true,true,true,true,true,false,false,false,false] rfl rfl (ko iG.out aR) bE (fun K hK=>?_)
 have aJb:sI.cell? ⟨iV,2,none⟩=some (.slice fC dD.length fD):=(af dP.out 2).trans rfl
 have aGh:=aa dP.out 2
 have auq:=pH.out
 have aur:=wh.out
 refine Cy (w1:=?_) (by rfl) rfl ?_ ?_
 rotate_left
 ·go_simp
  rfl
 refine hK.out _ _ ?_
 clear hK K
 refine dS (i:=13) (N:=some 15) #[true,true,true,true,true,true,true,true,true,true,true,true,true,true,false,false,false] rfl rfl (cY iG.out aR) (fun _ _ _ h=>h) (Or.inl ⟨by rfl,ez⟩) rfl ?_
 refine Hz (i:=14) (N:=none) #[true,true,true,true,true,true,true,true,true,true,true,true,true,true,true,false,false] rfl rfl (ko iG.out aR) bE (fun K hK=>?_)
 have aJc:sI.cell? ⟨iV,6,none⟩=some (.slice dL cw.length dM):=(af dP.out 6).trans rfl
 have aGi:=aa dP.out 6
 have aus:=pH.out
 have aut:=wh.out
 refine Cy (w1:=?_) (by rfl) rfl ?_ ?_
 rotate_left
 ·go_simp
  rfl
 refine hK.out _ _ ?_
 clear hK K
 refine dS (i:=15) (N:=some 16) #[true,true,true,true,true,true,true,true,true,true,true,true,true,true,true,true,false] rfl rfl (cY iG.out aR) (fun _ _ _ h=>h) (Or.inl ⟨by rfl,ez⟩) rfl ?_
 refine Hz (i:=16) (N:=none) #[true,true,true,true,true,true,true,true,true,true,true,true,true,true,true,true,true] rfl rfl (ko iG.out aR) bE (fun K hK=>?_)
 have aJd:sI.cell? ⟨iV,7,none⟩=some (.slice fE dI.length fF):=(af dP.out 7).trans rfl
 have aGj:=aa dP.out 7
 have auu:=pH.out
 have auv:=wh.out
 refine Cy (w1:=?_) (by rfl) rfl ?_ ?_
 rotate_left
 ·go_simp
  rfl
 refine hK.out _ _ ?_
 clear hK K
 refine zO (tE iG.out aR) ?_
 have abz:=wh.out
 have abA:=pH.out
 have ya:sI.cell? ⟨iV,0,none⟩=some (.int .i64 bB):=(af dP.out 0).trans rfl
 have yc:sI.cell? ⟨iV,1,none⟩=some (.bool b7):=(af dP.out 1).trans rfl
 have yf:sI.cell? ⟨iV,2,none⟩=some (.slice fC dD.length fD):=(af dP.out 2).trans rfl
 have yg:sI.cell? ⟨iV,3,none⟩=some (.string bM):=(af dP.out 3).trans rfl
 have yh:sI.cell? ⟨iV,4,none⟩=some (.string bS):=(af dP.out 4).trans rfl
 have AE:sI.cell? ⟨iV,5,none⟩=some (.bool cr):=(af dP.out 5).trans rfl
 have ES:sI.cell? ⟨iV,6,none⟩=some (.slice dL cw.length dM):=(af dP.out 6).trans rfl
 have ET:sI.cell? ⟨iV,7,none⟩=some (.slice fE dI.length fF):=(af dP.out 7).trans rfl
 have EU:sI.cell? ⟨iV,8,none⟩=some (.int .i64 cx):=(af dP.out 8).trans rfl
 have yj:=aa dP.out 0
 have yl:=aa dP.out 1
 have ym:=aa dP.out 2
 have yq:=aa dP.out 3
 have yt:=aa dP.out 4
 have AG:=aa dP.out 5
 have EW:=aa dP.out 6
 have EX:=aa dP.out 7
 have EY:=aa dP.out 8
 have Lu:sI.cell? ⟨gK,0,none⟩=some (.int .i64 0):=(af jf.out 0).trans rfl
 have Lv:sI.cell? ⟨gK,1,none⟩=some (.bool false):=(af jf.out 1).trans rfl
 have Lx:sI.cell? ⟨gK,2,none⟩=some (.slice none 0 0):=(af jf.out 2).trans rfl
 have Lz:sI.cell? ⟨gK,3,none⟩=some (.string (⟨#[]⟩:ByteArray)):=(af jf.out 3).trans rfl
 have LA:sI.cell? ⟨gK,4,none⟩=some (.string (⟨#[]⟩:ByteArray)):=(af jf.out 4).trans rfl
 have LB:sI.cell? ⟨gK,5,none⟩=some (.bool false):=(af jf.out 5).trans rfl
 have LC:sI.cell? ⟨gK,6,none⟩=some (.slice none 0 0):=(af jf.out 6).trans rfl
 have LD:sI.cell? ⟨gK,7,none⟩=some (.slice none 0 0):=(af jf.out 7).trans rfl
 have LF:sI.cell? ⟨gK,8,none⟩=some (.int .i64 0):=(af jf.out 8).trans rfl
 have LG:=aa jf.out 0
 have LH:=aa jf.out 1
 have LI:=aa jf.out 2
 have LJ:=aa jf.out 3
 have LK:=aa jf.out 4
 have LL:=aa jf.out 5
 have LM:=aa jf.out 6
 have LN:=aa jf.out 7
 have LO:=aa jf.out 8
 try go_wp2
 refine bodyPost_ret (results_cell_row rfl _ _ gK 34 #[.int .i64 bB,.bool b7,.slice wY t120.length wZ,.string bM,.string bS,.bool cr,.slice Fj t123.length Fk,.slice qK t126.length qL,.int .i64 cx] (0,0) _ rfl (by refine aH (cs:=#[.int .i64 bB,.bool b7,.slice wY t120.length wZ,.string bM,.string bS,.bool cr,.slice Fj t123.length Fk,.slice qK t126.length qL,.int .i64 0]) ?_ 8 _ rfl;refine aH (cs:=#[.int .i64 bB,.bool b7,.slice wY t120.length wZ,.string bM,.string bS,.bool cr,.slice Fj t123.length Fk,.slice none 0 0,.int .i64 0]) ?_ 7 _ rfl;refine aH (cs:=#[.int .i64 bB,.bool b7,.slice wY t120.length wZ,.string bM,.string bS,.bool cr,.slice none 0 0,.slice none 0 0,.int .i64 0]) ?_ 6 _ rfl;refine aH (cs:=#[.int .i64 bB,.bool b7,.slice wY t120.length wZ,.string bM,.string bS,.bool false,.slice none 0 0,.slice none 0 0,.int .i64 0]) ?_ 5 _ rfl;refine aH (cs:=#[.int .i64 bB,.bool b7,.slice wY t120.length wZ,.string bM,.string (⟨#[]⟩:ByteArray),.bool false,.slice none 0 0,.slice none 0 0,.int .i64 0]) ?_ 4 _ rfl;refine aH (cs:=#[.int .i64 bB,.bool b7,.slice wY t120.length wZ,.string (⟨#[]⟩:ByteArray),.string (⟨#[]⟩:ByteArray),.bool false,.slice none 0 0,.slice none 0 0,.int .i64 0]) ?_ 3 _ rfl;refine aH (cs:=#[.int .i64 bB,.bool b7,.slice none 0 0,.string (⟨#[]⟩:ByteArray),.string (⟨#[]⟩:ByteArray),.bool false,.slice none 0 0,.slice none 0 0,.int .i64 0]) ?_ 2 _ rfl;refine aH (cs:=#[.int .i64 bB,.bool false,.slice none 0 0,.string (⟨#[]⟩:ByteArray),.string (⟨#[]⟩:ByteArray),.bool false,.slice none 0 0,.slice none 0 0,.int .i64 0]) ?_ 1 _ rfl;refine aH (cs:=#[.int .i64 0,.bool false,.slice none 0 0,.string (⟨#[]⟩:ByteArray),.string (⟨#[]⟩:ByteArray),.bool false,.slice none 0 0,.slice none 0 0,.int .i64 0]) ?_ 0 _ rfl;refine aN ?_ pH.out _;refine aN ?_ pH.out _;refine aN ?_ pH.out _;exact jf.out) Tryz.underlying34 rfl aR) rfl ?_
 exact ⟨_,_,_,by rfl,by exact Kd.cu (Kd.au (p:=⟨gK,8,none⟩) (Kd.au (p:=⟨gK,7,none⟩) (Kd.au (p:=⟨gK,6,none⟩) (Kd.au (p:=⟨gK,5,none⟩) (Kd.au (p:=⟨gK,4,none⟩) (Kd.au (p:=⟨gK,3,none⟩) (Kd.au (p:=⟨gK,2,none⟩) (Kd.au (p:=⟨gK,1,none⟩) (Kd.au (p:=⟨gK,0,none⟩) (Kd.au (p:=⟨iV,7,none⟩) (Kd.au (p:=⟨iV,6,none⟩) (Kd.au (p:=⟨iV,2,none⟩) (Kd.cj (Kd.cj zW.out dP.out bE) jf.out bE) (fun _ hk=>hk.1.2) (.slice wY t120.length wZ)) (fun _ hk=>hk.1.2) (.slice Fj t123.length Fk)) (fun _ hk=>hk.1.2) (.slice qK t126.length qL)) (fun _ hk=>hk.2) (.int .i64 bB)) (fun _ hk=>hk.2) (.bool b7)) (fun _ hk=>hk.2) (.slice wY t120.length wZ)) (fun _ hk=>hk.2) (.string bM)) (fun _ hk=>hk.2) (.string bS)) (fun _ hk=>hk.2) (.bool cr)) (fun _ hk=>hk.2) (.slice Fj t123.length Fk)) (fun _ hk=>hk.2) (.slice qK t126.length qL)) (fun _ hk=>hk.2) (.int .i64 cx)) (fun _ hk=>trivial),by exact Kd.cu (Kd.au (p:=⟨gK,8,none⟩) (Kd.au (p:=⟨gK,7,none⟩) (Kd.au (p:=⟨gK,6,none⟩) (Kd.au (p:=⟨gK,5,none⟩) (Kd.au (p:=⟨gK,4,none⟩) (Kd.au (p:=⟨gK,3,none⟩) (Kd.au (p:=⟨gK,2,none⟩) (Kd.au (p:=⟨gK,1,none⟩) (Kd.au (p:=⟨gK,0,none⟩) (Kd.au (p:=⟨iV,7,none⟩) (Kd.au (p:=⟨iV,6,none⟩) (Kd.au (p:=⟨iV,2,none⟩) (Kd.cj (Kd.cj Il.out dP.out bE) jf.out bE) (fun _ hk=>hk.1.2) (.slice wY t120.length wZ)) (fun _ hk=>hk.1.2) (.slice Fj t123.length Fk)) (fun _ hk=>hk.1.2) (.slice qK t126.length qL)) (fun _ hk=>hk.2) (.int .i64 bB)) (fun _ hk=>hk.2) (.bool b7)) (fun _ hk=>hk.2) (.slice wY t120.length wZ)) (fun _ hk=>hk.2) (.string bM)) (fun _ hk=>hk.2) (.string bS)) (fun _ hk=>hk.2) (.bool cr)) (fun _ hk=>hk.2) (.slice Fj t123.length Fk)) (fun _ hk=>hk.2) (.slice qK t126.length qL)) (fun _ hk=>hk.2) (.int .i64 cx)) (fun _ hk=>trivial),by exact Kd.cu (Kd.au (p:=⟨gK,8,none⟩) (Kd.au (p:=⟨gK,7,none⟩) (Kd.au (p:=⟨gK,6,none⟩) (Kd.au (p:=⟨gK,5,none⟩) (Kd.au (p:=⟨gK,4,none⟩) (Kd.au (p:=⟨gK,3,none⟩) (Kd.au (p:=⟨gK,2,none⟩) (Kd.au (p:=⟨gK,1,none⟩) (Kd.au (p:=⟨gK,0,none⟩) (Kd.au (p:=⟨iV,7,none⟩) (Kd.au (p:=⟨iV,6,none⟩) (Kd.au (p:=⟨iV,2,none⟩) (Kd.cj (Kd.cj ab4.out dP.out bE) jf.out bE) (fun _ hk=>hk.1.2) (.slice wY t120.length wZ)) (fun _ hk=>hk.1.2) (.slice Fj t123.length Fk)) (fun _ hk=>hk.1.2) (.slice qK t126.length qL)) (fun _ hk=>hk.2) (.int .i64 bB)) (fun _ hk=>hk.2) (.bool b7)) (fun _ hk=>hk.2) (.slice wY t120.length wZ)) (fun _ hk=>hk.2) (.string bM)) (fun _ hk=>hk.2) (.string bS)) (fun _ hk=>hk.2) (.bool cr)) (fun _ hk=>hk.2) (.slice Fj t123.length Fk)) (fun _ hk=>hk.2) (.slice qK t126.length qL)) (fun _ hk=>hk.2) (.int .i64 cx)) (fun _ hk=>trivial),by repeat ((with_reducible first|exact HB.out|refine dN ?_ aiZ.out|refine dN ?_ ai0.out))⟩
def cZ.l0:Nat→List (qV)→Int→Int→Int→List (qV)→Option (Int×(List (qV)))
 | 0,_,_,_,_,_ =>none
 |k + 1,qX,Aj,Dd,NH,Fl=>if Dd < Aj then (if 0≤Dd then (if Dd < (qX.length:Int) then ((iB.f ((av qX Dd).f0) ((av qX Dd).f1.f0) ((av qX Dd).f1.f1) ((av qX Dd).f1.f2.f0) ((av qX Dd).f1.f2.f1) ((av qX Dd).f1.f2.f2) ((av qX Dd).f2) ((av qX Dd).f3) ((av qX Dd).f4)).bind fun yB=>(if Fl.length < 1034834473200 then (cZ.l0 k qX Aj (wrap64 (Dd + 1)) NH (Fl ++ [(⟨yB.1,(⟨yB.2.1,yB.2.2.1,(⟨yB.2.2.2.1,yB.2.2.2.2.1,yB.2.2.2.2.2.1⟩:sD)⟩:PV),yB.2.2.2.2.2.2.1,yB.2.2.2.2.2.2.2.1,yB.2.2.2.2.2.2.2.2⟩:qV)])) else (none))) else (none)) else (none)) else (some (NH,Fl))
def cZ.f (k:Nat) (bB:Int) (bn:List (qV)):Option (Int×(List (qV))):=cZ.l0 k bn (bn.length:Int) 0 bB ([]:List (qV))
def cZ.T5:Bool×List (List Nat×List Nat):=(true,[([],[]),([0],[0]),([],[]),([2],[2]),([3],[3]),([1,4,3],[1,4]),([0,1,2,3,4,5],[]),([6,5,5,0,1,2,3,4,5],[5,6])])
def cZ.B5:List Nat:=[0,1,0,4,12,31,63,127]
theorem cZ.adT:pO .any (opsOf Tryz.f57 5)=cZ.T5:=by kernel_rfl
theorem cZ.Sd:ql cZ.T5.2 cZ.B5=true:=by kernel_rfl
theorem cZ.calls (k:Nat) (bB:Int) (lZ:Option Addr) (kE:Nat) (bn:List (qV)) (r1:Int) (r2:List (qV)) (w:World) (uV:Kd.C Cb w lZ bn.length bn) (uW:bn.length≤kE) (h:cZ.f k bB bn=some (r1,r2)):
 Calls Tryz.prog 57 #[.agg #[.int .i64 bB,.slice lZ bn.length kE]] w fun e w'=>∃ Q7:Value,e= .returned (.agg #[.int .i64 r1,Q7])∧Kd.S Cb 34 w' w.heap.size (fun _ =>True) Q7 r2∧Below w.heap.size w w':=by
 have adw:=Tryz.underlying40
 have Dg:=Tryz.underlying34
 have CE:=ah.mk uV
 have RP:=ah.mk uW
 clear uV uW
 have HB:=ah.mk (Below.refl w.heap.size w)
 have H:(cZ.l0 k bn (bn.length:Int) 0 bB ([]:List (qV)))=some (r1,r2):=h
 clear h
 have H':=ah.mk H
 clear H
 go_enter Tryz.func57,Tryz.ntmps57
 go_wp2_with (first|((with_reducible refine bI (N:=1) rfl ?_);refine bR ?hg (N:=1) ?hd (cs:=#[.int .i64 bB,.slice lZ bn.length kE]) (t:=40) ?hr ?_;(case hd=>rfl);(case hg=>rfl);(case hr=>(go_simp;done));intro qg hg w2 b9 hb;have kH:=ah.mk (b9);have aGk:=ah.mk ((bZ:w.heap.size≤qg));have aGl:=ah.mk ((bZ:w.heap.size≤qg));replace HB:=ah.mk (aA aD hb);clear hb b9 hg)|((with_reducible refine bI (N:=2) rfl ?_);refine bR ?hg (N:=2) ?hd (cs:=#[.int .i64 0,.slice none 0 0]) (t:=40) ?hr ?_;(case hd=>rfl);(case hg=>rfl);(case hr=>(go_simp;done));intro pS hg w3 b9 hb;have mG:=ah.mk (b9);have aGm:=ah.mk ((bZ:w.heap.size≤pS));have ai1:=ah.mk ((bZ:w.heap.size≤pS));replace HB:=ah.mk (aA aD hb);have CG:=ah.mk ((CZ:qg≠pS));have CH:=ah.mk ((C0:pS≠qg));replace kH:=ah.mk (aC xx hb);clear hb b9 hg;have aJe:=CG.out;have aJf:=CH.out;have Sg:w3.cell? ⟨qg,0,none⟩=some (.int .i64 bB):=(af kH.out 0).trans rfl;have Sh:w3.cell? ⟨qg,1,none⟩=some (.slice lZ bn.length kE):=(af kH.out 1).trans rfl;have Si:=aa kH.out 0;have Sj:=aa kH.out 1)|((with_reducible refine bI (N:=3) rfl ?_);refine bR ?hg (N:=3) ?hd (cs:=#[.int .i64 0,.slice none 0 0]) (t:=40) ?hr ?_;(case hd=>rfl);(case hg=>rfl);(case hr=>(go_simp;done));intro nN hg w6 b9 hb;have iH:=ah.mk (b9);have aGn:=ah.mk ((bZ:w.heap.size≤nN));have agA:=ah.mk ((bZ:w.heap.size≤nN));replace HB:=ah.mk (aA aD hb);have qz:=ah.mk ((CZ:qg≠nN));have zI:=ah.mk ((C0:nN≠qg));replace kH:=ah.mk (aC xx hb);have qA:=ah.mk ((by rw [hg];exact Nat.ne_of_lt (fu rC):pS≠nN));have zJ:=ah.mk ((by rw [hg];exact Nat.ne_of_gt (fu rC):nN≠pS));replace mG:=ah.mk (aC rC hb);clear hb b9 hg;have aBc:=zI.out;have aBd:=qz.out;have aJg:=zJ.out;have aJh:=qA.out;have Fm:w6.cell? ⟨nN,0,none⟩=some (.int .i64 0):=(af iH.out 0).trans rfl;have Fp:w6.cell? ⟨nN,1,none⟩=some (.slice none 0 0):=(af iH.out 1).trans rfl;have Fq:=aa iH.out 0;have Fu:=aa iH.out 1;have NI:w6.cell? ⟨qg,0,none⟩=some (.int .i64 bB):=(af kH.out 0).trans rfl;have NJ:w6.cell? ⟨qg,1,none⟩=some (.slice lZ bn.length kE):=(af kH.out 1).trans rfl;have NK:=aa kH.out 0;have NL:=aa kH.out 1))
 go_loopg [12] k (fun kq v12 w'=>∃ (bK:Int) (nO:List (qV)) (ke:Value),v12= .int .i64 bK∧ah (cZ.l0 kq bn (bn.length:Int) bK bB nO=some (r1,r2))∧ah (kq≤k)∧ah (Kd.S Cb 34 w' w.heap.size (fun _ =>True) ke nO)∧ah (w'.heap[qg]? =some (.cells #[.int .i64 bB,(.slice lZ bn.length kE)] 40 (0,0)))∧ah (w'.heap[pS]? =some (.cells #[.int .i64 0,(.slice none 0 0)] 40 (0,0)))∧ah (w'.heap[nN]? =some (.cells #[.int .i64 bB,ke] 40 (0,0)))∧ah (Below w.heap.size w w'))
 case atStart=>exact ⟨(0),(([]:List (qV))),(.slice none 0 0),(by rfl),H',⟨Nat.le_refl _⟩,⟨by exact Kd.aba _ _ _ _ _⟩,⟨by refine aN ?_ qz.out _;refine aN ?_ qz.out _;exact kH.out⟩,⟨by refine aN ?_ qA.out _;refine aN ?_ qA.out _;exact mG.out⟩,⟨by refine aH (cs:=#[.int .i64 bB,.slice none 0 0]) ?_ 1 _ rfl;refine aH (cs:=#[.int .i64 0,.slice none 0 0]) ?_ 0 _ rfl;exact iH.out⟩,⟨KW⟩⟩
 case round=>
  clear H'
  obtain ⟨bK,nO,ke,rfl,HA,sw,eV,kH,mG,iH,HB⟩:=hrel
  cases gk with
  |zero=>exact absurd HA.out (by simp [cZ.l0])
  |succ k1=>
   have H:=HA.out
   clear HA
   simp only [cZ.l0] at H
   by_cases c11:bK < (bn.length:Int)
   ·rw [if_pos c11] at H
    have xN:=decide_eq_true c11
    clear c11
    obtain ⟨c12,H⟩:=ld H
    have CC:=decide_eq_true c12
    clear c12
    obtain ⟨c13,H⟩:=ld H
    have CD:=decide_eq_true c13
    clear c13
    obtain ⟨⟨t134,t135,t136,t139,t140,t141,t142,t145,t148⟩,A14,H⟩:=bd_ H
    (try dsimp only at H)
    obtain ⟨c15,H⟩:=ld H
    have ai3:=ah.mk c15
    clear c15
    obtain ⟨Zg,Sk⟩:∃ y_:List (qV),y_=(nO ++ [(⟨t134,(⟨t135,t136,(⟨t139,t140,t141⟩:sD)⟩:PV),t142,t145,t148⟩:qV)]):=⟨_,rfl⟩
    replace H:(cZ.l0 k1 bn (bn.length:Int) (wrap64 (bK + 1)) bB Zg)=some (r1,r2):=by (rw [Sk];with_reducible exact H)
    have ai4:=ah.mk Sk
    clear Sk
    have H':=ah.mk H
    clear H
    have adU: 0≤(bK:Int):=of_decide_eq_true cP
    have adV:bK < (bn.length:Int):=of_decide_eq_true cP
    obtain ⟨Sl,kS,kT,mR,mS,nI,nJ,aBU,Fv,Fw,Fx,Fy,Fz,FA,FB,FC,FD,NM,NN,NP,NQ,NR,NS⟩:=uP CE.out bK adU adV
    cases aBU
    replace Fv:=(HB.out.cell (World.block_lt_of_cell? w _ Fv)).trans Fv
    replace Fw:=(HB.out.cell (World.block_lt_of_cell? w _ Fw)).trans Fw
    replace Fx:=(HB.out.cell (World.block_lt_of_cell? w _ Fx)).trans Fx
    replace Fy:=(HB.out.cell (World.block_lt_of_cell? w _ Fy)).trans Fy
    replace Fz:=(HB.out.cell (World.block_lt_of_cell? w _ Fz)).trans Fz
    replace FA:=(HB.out.cell (World.block_lt_of_cell? w _ FA)).trans FA
    replace FB:=(HB.out.cell (World.block_lt_of_cell? w _ FB)).trans FB
    replace FC:=(HB.out.cell (World.block_lt_of_cell? w _ FC)).trans FC
    replace FD:=(HB.out.cell (World.block_lt_of_cell? w _ FD)).trans FD
    have Zh:=ah.mk NN
    have Zi:=ah.mk NM
    clear NN NM
    have Zj:=ah.mk NQ
    have Zk:=ah.mk NP
    clear NQ NP
    have Zl:=ah.mk NS
    have Zm:=ah.mk NR
    clear NS NR
    replace adU:=eq_true adU
    replace adV:=eq_true adV
    try go_wp2_with (((with_reducible refine bI (N:=5) rfl ?_);refine bR ?hg (N:=5) ?hd (cs:=#[.int .i64 0,.bool false,.slice none 0 0,.string (⟨#[]⟩:ByteArray),.string (⟨#[]⟩:ByteArray),.bool false,.slice none 0 0,.slice none 0 0,.int .i64 0]) (t:=34) ?hr ?_;(case hd=>rfl);(case hg=>rfl);(case hr=>(go_simp;done));intro cI hg sJ b9 hb;replace eV:=ah.mk (Kd.kL (Kd.QL (by exact eV.out) cI (Nat.le_of_eq hg.symm)) hb);have dV:=ah.mk (b9);have aGo:=ah.mk ((bZ:w.heap.size≤cI));have ai5:=ah.mk ((bZ:w.heap.size≤cI));replace HB:=ah.mk (aA aD hb);have lS:=ah.mk ((CZ:qg≠cI));have Pr:=ah.mk ((C0:cI≠qg));replace kH:=ah.mk (aC xx hb);have lT:=ah.mk ((by rw [hg];exact Nat.ne_of_lt (fu rC):pS≠cI));have Pv:=ah.mk ((by rw [hg];exact Nat.ne_of_gt (fu rC):cI≠pS));replace mG:=ah.mk (aC rC hb);have kU:=ah.mk ((by rw [hg];exact Nat.ne_of_lt (fu (by exact iH.out)):nN≠cI));have CI:=ah.mk ((by rw [hg];exact Nat.ne_of_gt (fu (by exact iH.out)):cI≠nN));replace iH:=ah.mk (aC (by exact iH.out) hb);clear hb b9 hg;have abz:=Pr.out;have abA:=lS.out;have ag4:=Pv.out;have ag5:=lT.out;have aGp:=CI.out;have aGq:=kU.out;have LP:sJ.cell? ⟨cI,0,none⟩=some (.int .i64 0):=(af dV.out 0).trans rfl;have LQ:sJ.cell? ⟨cI,1,none⟩=some (.bool false):=(af dV.out 1).trans rfl;have LR:sJ.cell? ⟨cI,2,none⟩=some (.slice none 0 0):=(af dV.out 2).trans rfl;have Ux:sJ.cell? ⟨cI,3,none⟩=some (.string (⟨#[]⟩:ByteArray)):=(af dV.out 3).trans rfl;have Uy:sJ.cell? ⟨cI,4,none⟩=some (.string (⟨#[]⟩:ByteArray)):=(af dV.out 4).trans rfl;have Uz:sJ.cell? ⟨cI,5,none⟩=some (.bool false):=(af dV.out 5).trans rfl;have UA:sJ.cell? ⟨cI,6,none⟩=some (.slice none 0 0):=(af dV.out 6).trans rfl;have UB:sJ.cell? ⟨cI,7,none⟩=some (.slice none 0 0):=(af dV.out 7).trans rfl;have UC:sJ.cell? ⟨cI,8,none⟩=some (.int .i64 0):=(af dV.out 8).trans rfl;have LS:=aa dV.out 0;have LU:=aa dV.out 1;have LV:=aa dV.out 2;have UD:=aa dV.out 3;have UE:=aa dV.out 4;have UF:=aa dV.out 5;have UG:=aa dV.out 6;have UH:=aa dV.out 7;have UI:=aa dV.out 8))
    have jF:ah (Kd.S Cb 34 (((((((((sJ.setCell ⟨cI,0,none⟩ (.int .i64 ((av bn bK).f0))).setCell ⟨cI,1,none⟩ (.bool ((av bn bK).f1.f0))).setCell ⟨cI,2,none⟩ (.slice kS ((av bn bK).f1.f1).length kT)).setCell ⟨cI,3,none⟩ (.string ((av bn bK).f1.f2.f0))).setCell ⟨cI,4,none⟩ (.string ((av bn bK).f1.f2.f1))).setCell ⟨cI,5,none⟩ (.bool ((av bn bK).f1.f2.f2))).setCell ⟨cI,6,none⟩ (.slice mR ((av bn bK).f2).length mS)).setCell ⟨cI,7,none⟩ (.slice nI ((av bn bK).f3).length nJ)).setCell ⟨cI,8,none⟩ (.int .i64 ((av bn bK).f4))) w.heap.size (fun k_ =>k_≠cI) ke nO):=⟨by exact Kd.kB (Kd.kg (p:=⟨cI,8,none⟩) (Kd.kg (p:=⟨cI,7,none⟩) (Kd.kg (p:=⟨cI,6,none⟩) (Kd.kg (p:=⟨cI,5,none⟩) (Kd.kg (p:=⟨cI,4,none⟩) (Kd.kg (p:=⟨cI,3,none⟩) (Kd.kg (p:=⟨cI,2,none⟩) (Kd.kg (p:=⟨cI,1,none⟩) (Kd.kg (p:=⟨cI,0,none⟩) (Kd.kB eV.out (fun k_ hk=>(⟨hk,hk.2⟩:_∧k_≠cI))) (fun _ hk=>hk.2) (.int .i64 ((av bn bK).f0))) (fun _ hk=>hk.2) (.bool ((av bn bK).f1.f0))) (fun _ hk=>hk.2) (.slice kS ((av bn bK).f1.f1).length kT)) (fun _ hk=>hk.2) (.string ((av bn bK).f1.f2.f0))) (fun _ hk=>hk.2) (.string ((av bn bK).f1.f2.f1))) (fun _ hk=>hk.2) (.bool ((av bn bK).f1.f2.f2))) (fun _ hk=>hk.2) (.slice mR ((av bn bK).f2).length mS)) (fun _ hk=>hk.2) (.slice nI ((av bn bK).f3).length nJ)) (fun _ hk=>hk.2) (.int .i64 ((av bn bK).f4))) (fun _ hk=>hk.1.2)⟩
    have jG:ah ((((((((((sJ.setCell ⟨cI,0,none⟩ (.int .i64 ((av bn bK).f0))).setCell ⟨cI,1,none⟩ (.bool ((av bn bK).f1.f0))).setCell ⟨cI,2,none⟩ (.slice kS ((av bn bK).f1.f1).length kT)).setCell ⟨cI,3,none⟩ (.string ((av bn bK).f1.f2.f0))).setCell ⟨cI,4,none⟩ (.string ((av bn bK).f1.f2.f1))).setCell ⟨cI,5,none⟩ (.bool ((av bn bK).f1.f2.f2))).setCell ⟨cI,6,none⟩ (.slice mR ((av bn bK).f2).length mS)).setCell ⟨cI,7,none⟩ (.slice nI ((av bn bK).f3).length nJ)).setCell ⟨cI,8,none⟩ (.int .i64 ((av bn bK).f4))).heap[qg]? =some (.cells #[.int .i64 bB,.slice (some Sl) bn.length kE] 40 (0,0))):=⟨by refine aN ?_ lS.out _;refine aN ?_ lS.out _;refine aN ?_ lS.out _;refine aN ?_ lS.out _;refine aN ?_ lS.out _;refine aN ?_ lS.out _;refine aN ?_ lS.out _;refine aN ?_ lS.out _;refine aN ?_ lS.out _;exact kH.out⟩
    have mA:ah ((((((((((sJ.setCell ⟨cI,0,none⟩ (.int .i64 ((av bn bK).f0))).setCell ⟨cI,1,none⟩ (.bool ((av bn bK).f1.f0))).setCell ⟨cI,2,none⟩ (.slice kS ((av bn bK).f1.f1).length kT)).setCell ⟨cI,3,none⟩ (.string ((av bn bK).f1.f2.f0))).setCell ⟨cI,4,none⟩ (.string ((av bn bK).f1.f2.f1))).setCell ⟨cI,5,none⟩ (.bool ((av bn bK).f1.f2.f2))).setCell ⟨cI,6,none⟩ (.slice mR ((av bn bK).f2).length mS)).setCell ⟨cI,7,none⟩ (.slice nI ((av bn bK).f3).length nJ)).setCell ⟨cI,8,none⟩ (.int .i64 ((av bn bK).f4))).heap[pS]? =some (.cells #[.int .i64 0,.slice none 0 0] 40 (0,0))):=⟨by refine aN ?_ lT.out _;refine aN ?_ lT.out _;refine aN ?_ lT.out _;refine aN ?_ lT.out _;refine aN ?_ lT.out _;refine aN ?_ lT.out _;refine aN ?_ lT.out _;refine aN ?_ lT.out _;refine aN ?_ lT.out _;exact mG.out⟩
    have nG:ah ((((((((((sJ.setCell ⟨cI,0,none⟩ (.int .i64 ((av bn bK).f0))).setCell ⟨cI,1,none⟩ (.bool ((av bn bK).f1.f0))).setCell ⟨cI,2,none⟩ (.slice kS ((av bn bK).f1.f1).length kT)).setCell ⟨cI,3,none⟩ (.string ((av bn bK).f1.f2.f0))).setCell ⟨cI,4,none⟩ (.string ((av bn bK).f1.f2.f1))).setCell ⟨cI,5,none⟩ (.bool ((av bn bK).f1.f2.f2))).setCell ⟨cI,6,none⟩ (.slice mR ((av bn bK).f2).length mS)).setCell ⟨cI,7,none⟩ (.slice nI ((av bn bK).f3).length nJ)).setCell ⟨cI,8,none⟩ (.int .i64 ((av bn bK).f4))).heap[nN]? =some (.cells #[.int .i64 bB,ke] 40 (0,0))):=⟨by refine aN ?_ kU.out _;refine aN ?_ kU.out _;refine aN ?_ kU.out _;refine aN ?_ kU.out _;refine aN ?_ kU.out _;refine aN ?_ kU.out _;refine aN ?_ kU.out _;refine aN ?_ kU.out _;refine aN ?_ kU.out _;exact iH.out⟩
    have nU:ah ((((((((((sJ.setCell ⟨cI,0,none⟩ (.int .i64 ((av bn bK).f0))).setCell ⟨cI,1,none⟩ (.bool ((av bn bK).f1.f0))).setCell ⟨cI,2,none⟩ (.slice kS ((av bn bK).f1.f1).length kT)).setCell ⟨cI,3,none⟩ (.string ((av bn bK).f1.f2.f0))).setCell ⟨cI,4,none⟩ (.string ((av bn bK).f1.f2.f1))).setCell ⟨cI,5,none⟩ (.bool ((av bn bK).f1.f2.f2))).setCell ⟨cI,6,none⟩ (.slice mR ((av bn bK).f2).length mS)).setCell ⟨cI,7,none⟩ (.slice nI ((av bn bK).f3).length nJ)).setCell ⟨cI,8,none⟩ (.int .i64 ((av bn bK).f4))).heap[cI]? =some (.cells #[.int .i64 ((av bn bK).f0),.bool ((av bn bK).f1.f0),.slice kS ((av bn bK).f1.f1).length kT,.string ((av bn bK).f1.f2.f0),.string ((av bn bK).f1.f2.f1),.bool ((av bn bK).f1.f2.f2),.slice mR ((av bn bK).f2).length mS,.slice nI ((av bn bK).f3).length nJ,.int .i64 ((av bn bK).f4)] 34 (0,0))):=⟨by refine aH (cs:=#[.int .i64 ((av bn bK).f0),.bool ((av bn bK).f1.f0),.slice kS ((av bn bK).f1.f1).length kT,.string ((av bn bK).f1.f2.f0),.string ((av bn bK).f1.f2.f1),.bool ((av bn bK).f1.f2.f2),.slice mR ((av bn bK).f2).length mS,.slice nI ((av bn bK).f3).length nJ,.int .i64 0]) ?_ 8 _ rfl;refine aH (cs:=#[.int .i64 ((av bn bK).f0),.bool ((av bn bK).f1.f0),.slice kS ((av bn bK).f1.f1).length kT,.string ((av bn bK).f1.f2.f0),.string ((av bn bK).f1.f2.f1),.bool ((av bn bK).f1.f2.f2),.slice mR ((av bn bK).f2).length mS,.slice none 0 0,.int .i64 0]) ?_ 7 _ rfl;refine aH (cs:=#[.int .i64 ((av bn bK).f0),.bool ((av bn bK).f1.f0),.slice kS ((av bn bK).f1.f1).length kT,.string ((av bn bK).f1.f2.f0),.string ((av bn bK).f1.f2.f1),.bool ((av bn bK).f1.f2.f2),.slice none 0 0,.slice none 0 0,.int .i64 0]) ?_ 6 _ rfl;refine aH (cs:=#[.int .i64 ((av bn bK).f0),.bool ((av bn bK).f1.f0),.slice kS ((av bn bK).f1.f1).length kT,.string ((av bn bK).f1.f2.f0),.string ((av bn bK).f1.f2.f1),.bool false,.slice none 0 0,.slice none 0 0,.int .i64 0]) ?_ 5 _ rfl;refine aH (cs:=#[.int .i64 ((av bn bK).f0),.bool ((av bn bK).f1.f0),.slice kS ((av bn bK).f1.f1).length kT,.string ((av bn bK).f1.f2.f0),.string (⟨#[]⟩:ByteArray),.bool false,.slice none 0 0,.slice none 0 0,.int .i64 0]) ?_ 4 _ rfl;refine aH (cs:=#[.int .i64 ((av bn bK).f0),.bool ((av bn bK).f1.f0),.slice kS ((av bn bK).f1.f1).length kT,.string (⟨#[]⟩:ByteArray),.string (⟨#[]⟩:ByteArray),.bool false,.slice none 0 0,.slice none 0 0,.int .i64 0]) ?_ 3 _ rfl;refine aH (cs:=#[.int .i64 ((av bn bK).f0),.bool ((av bn bK).f1.f0),.slice none 0 0,.string (⟨#[]⟩:ByteArray),.string (⟨#[]⟩:ByteArray),.bool false,.slice none 0 0,.slice none 0 0,.int .i64 0]) ?_ 2 _ rfl;refine aH (cs:=#[.int .i64 ((av bn bK).f0),.bool false,.slice none 0 0,.string (⟨#[]⟩:ByteArray),.string (⟨#[]⟩:ByteArray),.bool false,.slice none 0 0,.slice none 0 0,.int .i64 0]) ?_ 1 _ rfl;refine aH (cs:=#[.int .i64 0,.bool false,.slice none 0 0,.string (⟨#[]⟩:ByteArray),.string (⟨#[]⟩:ByteArray),.bool false,.slice none 0 0,.slice none 0 0,.int .i64 0]) ?_ 0 _ rfl;exact dV.out⟩
    have oV:ah (Below w.heap.size w (((((((((sJ.setCell ⟨cI,0,none⟩ (.int .i64 ((av bn bK).f0))).setCell ⟨cI,1,none⟩ (.bool ((av bn bK).f1.f0))).setCell ⟨cI,2,none⟩ (.slice kS ((av bn bK).f1.f1).length kT)).setCell ⟨cI,3,none⟩ (.string ((av bn bK).f1.f2.f0))).setCell ⟨cI,4,none⟩ (.string ((av bn bK).f1.f2.f1))).setCell ⟨cI,5,none⟩ (.bool ((av bn bK).f1.f2.f2))).setCell ⟨cI,6,none⟩ (.slice mR ((av bn bK).f2).length mS)).setCell ⟨cI,7,none⟩ (.slice nI ((av bn bK).f3).length nJ)).setCell ⟨cI,8,none⟩ (.int .i64 ((av bn bK).f4)))):=⟨by repeat ((with_reducible first|exact HB.out|refine dN ?_ ai5.out))⟩
    generalize (((((((((sJ.setCell ⟨cI,0,none⟩ (.int .i64 ((av bn bK).f0))).setCell ⟨cI,1,none⟩ (.bool ((av bn bK).f1.f0))).setCell ⟨cI,2,none⟩ (.slice kS ((av bn bK).f1.f1).length kT)).setCell ⟨cI,3,none⟩ (.string ((av bn bK).f1.f2.f0))).setCell ⟨cI,4,none⟩ (.string ((av bn bK).f1.f2.f1))).setCell ⟨cI,5,none⟩ (.bool ((av bn bK).f1.f2.f2))).setCell ⟨cI,6,none⟩ (.slice mR ((av bn bK).f2).length mS)).setCell ⟨cI,7,none⟩ (.slice nI ((av bn bK).f3).length nJ)).setCell ⟨cI,8,none⟩ (.int .i64 ((av bn bK).f4)))=Pn at jF jG mA nG nU oV ⊢
    have eV:=jF
    have kH:=jG
    have mG:=mA
    have iH:=nG
    have dV:=nU
    have HB:=oV
    clear jF jG mA nG nU oV
    have jF:=ah.mk (Kd.ac1 eV.out)
    have jG:=ah.mk (ng kH.out)
    have mA:=ah.mk (ng mG.out)
    have nG:=ah.mk (ng iH.out)
    have nU:=ah.mk (ng dV.out)
    have oV:=ah.mk (jI HB.out)
    clear eV
    clear kH
    clear mG
    clear iH
    clear dV
    clear HB
    have eV:=jF
    have kH:=jG
    have mG:=mA
    have iH:=nG
    have dV:=nU
    have HB:=oV
    clear jF jG mA nG nU oV
    refine uN (n:=8) (S:=fun w'=>w'.cell? ⟨nN,0,none⟩=some (.int .i64 bB)∧w'.cell? ⟨nN,1,none⟩=some (ke)∧w'.cell? ⟨cI,0,none⟩=some (.int .i64 ((av bn bK).f0))∧w'.cell? ⟨cI,1,none⟩=some (.bool ((av bn bK).f1.f0))∧w'.cell? ⟨cI,2,none⟩=some (.slice kS ((av bn bK).f1.f1).length kT)∧w'.cell? ⟨cI,3,none⟩=some (.string ((av bn bK).f1.f2.f0))∧w'.cell? ⟨cI,4,none⟩=some (.string ((av bn bK).f1.f2.f1))∧w'.cell? ⟨cI,5,none⟩=some (.bool ((av bn bK).f1.f2.f2))∧w'.cell? ⟨cI,6,none⟩=some (.slice mR ((av bn bK).f2).length mS)∧w'.cell? ⟨cI,7,none⟩=some (.slice nI ((av bn bK).f3).length nJ)∧w'.cell? ⟨cI,8,none⟩=some (.int .i64 ((av bn bK).f4))) (ds:=[7]) #[false,false,false,false,false,false,false,false] aR (by rfl) (by rfl) ⟨(af iH.out 0).trans rfl,(af iH.out 1).trans rfl,(af dV.out 0).trans rfl,(af dV.out 1).trans rfl,(af dV.out 2).trans rfl,(af dV.out 3).trans rfl,(af dV.out 4).trans rfl,(af dV.out 5).trans rfl,(af dV.out 6).trans rfl,(af dV.out 7).trans rfl,(af dV.out 8).trans rfl⟩ (fun hHeld=>?_);refine pz cZ.adT cZ.Sd (fun iG Cs=>?_)
    generalize Pn.drew=zR at eV kH mG iH dV HB hHeld ⊢
    refine dS (i:=0) (N:=some 16) #[true,false,false,false,false,false,false,false] rfl rfl (cY iG.out aR) (fun _ _ _ h=>h) (Or.inl ⟨by rfl,ez⟩) rfl ?_
    refine nL (i:=1) (N:=some 17) #[true,true,false,false,false,false,false,false] rfl rfl (jS iG.out Cs.out aR) (fun _ _ _ h=>h) (Or.inl ⟨by rfl,KQ⟩) hHeld rfl ?_
    refine nL (i:=2) (N:=some 18) #[true,true,true,false,false,false,false,false] rfl rfl (jS iG.out Cs.out aR) (fun _ _ _ h=>h) (Or.inl ⟨by rfl,KQ⟩) hHeld rfl ?_
    refine rW (i:=3) (N:=some 19) #[true,true,true,true,false,false,false,false] rfl rfl (ko iG.out aR) bE (fun K hK=>?_)
    refine pN Tryz.func72 aR rfl #[.agg #[.int .i64 ((av bn bK).f0),.bool ((av bn bK).f1.f0),.slice kS ((av bn bK).f1.f1).length kT,.string ((av bn bK).f1.f2.f0),.string ((av bn bK).f1.f2.f1),.bool ((av bn bK).f1.f2.f2),.slice mR ((av bn bK).f2).length mS,.slice nI ((av bn bK).f3).length nJ,.int .i64 ((av bn bK).f4)]] (by rfl) rfl rfl dc ?_
    with_reducible refine (iB.calls ((av bn bK).f0) ((av bn bK).f1.f0) _ _ ((av bn bK).f1.f1) ((av bn bK).f1.f2.f0) ((av bn bK).f1.f2.f1) ((av bn bK).f1.f2.f2) _ _ ((av bn bK).f2) _ _ ((av bn bK).f3) ((av bn bK).f4) t134 t135 t136 t139 t140 t141 t142 t145 t148 _ ?aX ?bF ?dU ?jt ?ju ?jv A14.out).mono ?_
    (case aX=>repeat (exact (Kd.bG Zh.out HB.out)))
    (case bF=>exact Zi.out)
    (case dU=>repeat (exact (Kd.bG Zj.out HB.out)))
    (case jt=>exact Zk.out)
    (case ju=>repeat (exact (Kd.bG Zl.out HB.out)))
    (case jv=>exact Zm.out)
    rintro e Cc ⟨aJi,v143,v146,rfl,ho0,zk,xH,hb⟩
    refine ⟨_,rfl,?_⟩
    have jF:=ah.mk (Kd.kB (Kd.zA (Kd.zA (Kd.zA (Kd.QK (by exact eV.out) hb) (Kd.gu ho0)) (Kd.gu zk)) (Kd.gu xH)) (fun _ h_ =>h_.1))
    have jG:=ah.mk (Kd.cN ho0 (bL aD))
    have mA:=ah.mk (Kd.cN zk (bL aD))
    have nG:=ah.mk (Kd.cN xH (bL aD))
    have nU:=ah.mk (aC (g:=qg) (o:= .cells #[.int .i64 bB,.slice (some Sl) bn.length kE] 40 (0,0)) xx hb)
    have oV:=ah.mk (aC (g:=pS) (o:= .cells #[.int .i64 0,.slice none 0 0] 40 (0,0)) rC hb)
    have rI:=ah.mk (aC (g:=nN) (o:= .cells #[.int .i64 bB,ke] 40 (0,0)) (by exact iH.out) hb)
    have wK:=ah.mk (aC (g:=cI) (o:= .cells #[.int .i64 ((av bn bK).f0),.bool ((av bn bK).f1.f0),.slice kS ((av bn bK).f1.f1).length kT,.string ((av bn bK).f1.f2.f0),.string ((av bn bK).f1.f2.f1),.bool ((av bn bK).f1.f2.f2),.slice mR ((av bn bK).f2).length mS,.slice nI ((av bn bK).f3).length nJ,.int .i64 ((av bn bK).f4)] 34 (0,0)) (by exact dV.out) hb)
    have yz:=ah.mk (aA aD hb)
    clear eV
    clear kH
    clear mG
    clear iH
    clear dV
    clear HB
    have eV:=jF
    have NT:=jG
    have NU:=mA
    have NV:=nG
    have kH:=nU
    have mG:=oV
    have iH:=rI
    have dV:=wK
    have HB:=yz
    clear jF jG mA nG nU oV rI wK yz
    obtain ⟨Cq,Cr,R4⟩:=Kd.cM NT.out
    (subst R4)
    obtain ⟨ai6,ai7,aBV⟩:=Kd.cM NU.out
    (subst aBV)
    obtain ⟨ai8,ai9,aBW⟩:=Kd.cM NV.out
    (subst aBW)
    refine hK.out _ _ ⟨(af iH.out 0).trans rfl,(af iH.out 1).trans rfl,(af dV.out 0).trans rfl,(af dV.out 1).trans rfl,(af dV.out 2).trans rfl,(af dV.out 3).trans rfl,(af dV.out 4).trans rfl,(af dV.out 5).trans rfl,(af dV.out 6).trans rfl,(af dV.out 7).trans rfl,(af dV.out 8).trans rfl⟩ (fun hHeld=>?_)
    clear hK K
    refine kI (a':=?_) ?_ ?_
    rotate_left
    ·show Act.put _ (some 19) _=_
     simp only [Act.put,List.setIfInBounds_toArray,List.set_cons_zero,List.set_cons_succ,fU,gj]
     rfl
    refine rW (i:=4) (N:=some 20) #[true,true,true,true,true,false,false,false] rfl rfl (ko iG.out aR) bE (fun K hK=>?_)
    refine QF (w1:=?_) (v:=?_) (by rfl) rfl ?_ ?_
    rotate_left 2
    ·go_simp
     constructor
     ·rfl
     ·rfl
    refine hK.out _ _ ⟨(af (iL iH.out _) 0).trans rfl,(af (iL iH.out _) 1).trans rfl,(af (iL dV.out _) 0).trans rfl,(af (iL dV.out _) 1).trans rfl,(af (iL dV.out _) 2).trans rfl,(af (iL dV.out _) 3).trans rfl,(af (iL dV.out _) 4).trans rfl,(af (iL dV.out _) 5).trans rfl,(af (iL dV.out _) 6).trans rfl,(af (iL dV.out _) 7).trans rfl,(af (iL dV.out _) 8).trans rfl⟩ (fun hHeld=>?_)
    clear hK K
    refine kI (a':=?_) ?_ ?_
    rotate_left
    ·show Act.put _ (some 20) _=_
     simp only [Act.put,List.setIfInBounds_toArray,List.set_cons_zero,List.set_cons_succ,fU,gj]
     rfl
    refine rW (i:=5) (N:=some 21) #[true,true,true,true,true,true,false,false] rfl rfl (ko iG.out aR) bE (fun K hK=>?_)
    refine Kd.wF Cb (w0:=w) w.heap.size (by rfl) (.tmp 17) (.tmp 20) 38 34 (.agg #[(.int .i64 0),(.bool false),(.slice none 0 0),(.string ⟨#[]⟩),(.string ⟨#[]⟩),(.bool false),(.slice none 0 0),(.slice none 0 0),(.int .i64 0)]) 136 rfl Tryz.underlying38 ac8 rfl bE ay ke nO (⟨t134,(⟨t135,t136,(⟨t139,t140,t141⟩:sD)⟩:PV),t142,t145,t148⟩:qV) [.int .i64 t134,.bool t135,.slice Cq t136.length Cr,.string t139,.string t140,.bool t141,.slice ai6 t142.length ai7,.slice ai8 t145.length ai9,.int .i64 t148] (fun k_ =>k_≠cI) (fun k_ =>some k_=(.slice Cq t136.length Cr:Value).ownBlock∨some k_=(.slice ai6 t142.length ai7:Value).ownBlock∨some k_=(.slice ai8 t145.length ai9:Value).ownBlock) rfl rfl ?aP (fun k_ hk_ =>hk_.elim (fun h_ =>((Kd.cu (ok':=fun k_ =>((fun k_ =>k_≠cI)) k_∧some k_≠(ke:Value).ownBlock) (Kd.cj (Kd.sB (NT.out) (Kd.vZ eV.out) bE) dV.out bE) (fun k_ hk=>⟨hk.2,hk.1.2⟩))).1 k_ h_.symm) (fun h_ =>h_.elim (fun h_ =>((Kd.cu (ok':=fun k_ =>((fun k_ =>k_≠cI)) k_∧some k_≠(ke:Value).ownBlock) (Kd.cj (Kd.sB (NU.out) (Kd.vZ eV.out) bE) dV.out bE) (fun k_ hk=>⟨hk.2,hk.1.2⟩))).1 k_ h_.symm) (fun h_ =>((Kd.cu (ok':=fun k_ =>((fun k_ =>k_≠cI)) k_∧some k_≠(ke:Value).ownBlock) (Kd.cj (Kd.sB (NV.out) (Kd.vZ eV.out) bE) dV.out bE) (fun k_ hk=>⟨hk.2,hk.1.2⟩))).1 k_ h_.symm))) ?aF ?aO ?aB ?aS ?aL ?_
    (case aP=>exact Dc _ _ _ (⟨t134,(⟨t135,t136,(⟨t139,t140,t141⟩:sD)⟩:PV),t142,t145,t148⟩:qV) (Kd.cu (Kd.C9 rfl (Kd.cu (ok':=fun k_ =>((fun k_ =>k_≠cI)) k_∧some k_≠(ke:Value).ownBlock) (Kd.cj (Kd.sB (NT.out) (Kd.vZ eV.out) bE) dV.out bE) (fun k_ hk=>⟨hk.2,hk.1.2⟩))) (fun _ h_ =>Or.inl h_)) (Kd.cu (Kd.C9 rfl (Kd.cu (ok':=fun k_ =>((fun k_ =>k_≠cI)) k_∧some k_≠(ke:Value).ownBlock) (Kd.cj (Kd.sB (NU.out) (Kd.vZ eV.out) bE) dV.out bE) (fun k_ hk=>⟨hk.2,hk.1.2⟩))) (fun _ h_ =>Or.inr (Or.inl h_))) (Kd.cu (Kd.C9 rfl (Kd.cu (ok':=fun k_ =>((fun k_ =>k_≠cI)) k_∧some k_≠(ke:Value).ownBlock) (Kd.cj (Kd.sB (NV.out) (Kd.vZ eV.out) bE) dV.out bE) (fun k_ hk=>⟨hk.2,hk.1.2⟩))) (fun _ h_ =>Or.inr (Or.inr (h_)))))
    (case aB=>exact aD)
    (case aF=>exact (fun k_ hk=>Kd.acW (g:=cI) (o:= .cells #[.int .i64 ((av bn bK).f0),.bool ((av bn bK).f1.f0),.slice kS ((av bn bK).f1.f1).length kT,.string ((av bn bK).f1.f2.f0),.string ((av bn bK).f1.f2.f1),.bool ((av bn bK).f1.f2.f2),.slice mR ((av bn bK).f2).length mS,.slice nI ((av bn bK).f3).length nJ,.int .i64 ((av bn bK).f4)] 34 (0,0)) (by exact dV.out) k_ hk))
    (case aO=>exact (by exact Kd.kB eV.out (fun k_ hk=>⟨hk.1.1.1,fun e_ =>e_.elim (fun h_ =>hk.1.1.2 h_) (fun h_ =>h_.elim (fun h_ =>hk.1.2 h_) (fun h_ =>hk.2 h_))⟩)))
    (case aS=>exact (bL aD))
    (case aL=>have:=ai3.out;omega)
    intro aJk pM ho hb hg hat
    rw [← ai4.out] at ho
    have jF:=ah.mk (gZ (g:=qg) (o:= .cells #[.int .i64 bB,.slice (some Sl) bn.length kE] 40 (0,0)) xx hg (Kd.Um eV.out kH.out bE))
    have jG:=ah.mk (gZ (g:=pS) (o:= .cells #[.int .i64 0,.slice none 0 0] 40 (0,0)) rC hg (Kd.Um eV.out mG.out bE))
    have mA:=ah.mk (gZ (g:=nN) (o:= .cells #[.int .i64 bB,ke] 40 (0,0)) (by exact iH.out) hg (Kd.Um eV.out iH.out bE))
    have nG:=ah.mk (gZ (g:=cI) (o:= .cells #[.int .i64 ((av bn bK).f0),.bool ((av bn bK).f1.f0),.slice kS ((av bn bK).f1.f1).length kT,.string ((av bn bK).f1.f2.f0),.string ((av bn bK).f1.f2.f1),.bool ((av bn bK).f1.f2.f2),.slice mR ((av bn bK).f2).length mS,.slice nI ((av bn bK).f3).length nJ,.int .i64 ((av bn bK).f4)] 34 (0,0)) (by exact dV.out) hg (Kd.ac2 eV.out (fun _ hk=>hk.1.1.1)))
    have nU:=ah.mk (hb)
    have oV:=ah.mk (ho)
    clear kH
    clear mG
    clear iH
    clear dV
    clear HB
    clear eV
    clear NT
    clear NU
    clear NV
    have kH:=jF
    have mG:=jG
    have iH:=mA
    have dV:=nG
    have HB:=nU
    have ab5:=oV
    clear jF jG mA nG nU oV
    clear ho hb hg hat
    obtain ⟨Zn,Zo,adW⟩:=Kd.ji ab5.out
    (subst adW)
    refine hK.out _ _ ⟨(af iH.out 0).trans rfl,(af iH.out 1).trans rfl,(af dV.out 0).trans rfl,(af dV.out 1).trans rfl,(af dV.out 2).trans rfl,(af dV.out 3).trans rfl,(af dV.out 4).trans rfl,(af dV.out 5).trans rfl,(af dV.out 6).trans rfl,(af dV.out 7).trans rfl,(af dV.out 8).trans rfl⟩ (fun hHeld=>?_)
    clear hK K
    refine kI (a':=?_) ?_ ?_
    rotate_left
    ·show Act.put _ (some 21) _=_
     simp only [Act.put,List.setIfInBounds_toArray,List.set_cons_zero,List.set_cons_succ,fU,gj]
     rfl
    refine dS (i:=6) (N:=some 22) #[true,true,true,true,true,true,true,false] rfl rfl (cY iG.out aR) (fun _ _ _ h=>h) (Or.inl ⟨by rfl,ez⟩) rfl ?_
    refine Hz (i:=7) (N:=none) #[true,true,true,true,true,true,true,true] rfl rfl (ko iG.out aR) bE (fun K hK=>?_)
    have aJl:pM.cell? ⟨nN,1,none⟩=some (ke):=(af iH.out 1).trans rfl
    have aGr:=aa iH.out 1
    have auw:=qz.out
    have auy:=qA.out
    have auz:=CI.out
    have auA:=zI.out
    have auB:=zJ.out
    have auC:=kU.out
    refine Cy (w1:=?_) (by rfl) rfl ?_ ?_
    rotate_left
    ·go_simp
     rfl
    refine hK.out _ _ ?_
    clear hK K
    refine zO (tE iG.out aR) ?_
    try go_wp2
    go_roundg k1
    case measure=>have:=sw.out;omega
    case rel=>exact ⟨(wrap64 (bK + 1)),(Zg),(.slice Zn Zg.length Zo),(by rfl),H',⟨lA⟩,⟨by exact Kd.kB (Kd.kg (p:=⟨nN,1,none⟩) (Kd.vB ab5.out iH.out bE) (fun _ hk=>hk.2) (.slice Zn Zg.length Zo)) (fun _ hk=>trivial)⟩,⟨by refine aN ?_ qz.out _;exact kH.out⟩,⟨by refine aN ?_ qA.out _;exact mG.out⟩,⟨by refine aH (cs:=#[.int .i64 bB,ke]) ?_ 1 _ rfl;exact iH.out⟩,⟨KW⟩⟩
   ·rw [if_neg c11] at H
    have xN:=decide_eq_false c11
    clear c11
    simp only [Option.some.injEq,Prod.mk.injEq] at H
    obtain ⟨rfl,rfl⟩:=H
    have ag8:=zI.out
    have ag9:=qz.out
    have ahq:=zJ.out
    have ahr:=qA.out
    have auD:wr.cell? ⟨nN,0,none⟩=some (.int .i64 bB):=(af iH.out 0).trans rfl
    have auE:wr.cell? ⟨nN,1,none⟩=some (ke):=(af iH.out 1).trans rfl
    have auF:=aa iH.out 0
    have auG:=aa iH.out 1
    have aGs:=CH.out
    have aGt:=CG.out
    have L6:wr.cell? ⟨pS,0,none⟩=some (.int .i64 0):=(af mG.out 0).trans rfl
    have L8:wr.cell? ⟨pS,1,none⟩=some (.slice none 0 0):=(af mG.out 1).trans rfl
    have L9:=aa mG.out 0
    have Ma:=aa mG.out 1
    obtain ⟨xq,xu,adX⟩:=Kd.ji eV.out
    subst adX
    go_wp2
    refine bodyPost_ret (results_cell_row rfl _ _ pS 40 #[.int .i64 bB,.slice xq nO.length xu] (0,0) _ rfl (by refine aH (cs:=#[.int .i64 bB,.slice none 0 0]) ?_ 1 _ rfl;refine aH (cs:=#[.int .i64 0,.slice none 0 0]) ?_ 0 _ rfl;exact mG.out) Tryz.underlying40 rfl aR) rfl ?_
    exact ⟨_,by rfl,by exact Kd.kB (Kd.kg (p:=⟨pS,1,none⟩) (Kd.kg (p:=⟨pS,0,none⟩) (Kd.vB eV.out mG.out bE) (fun _ hk=>hk.2) (.int .i64 bB)) (fun _ hk=>hk.2) (.slice xq nO.length xu)) (fun _ hk=>trivial),by repeat ((with_reducible first|exact HB.out|refine dN ?_ ai1.out))⟩
end Go.Proofs.YtbjjaaodfbjkfaaGreatDoor.qb
