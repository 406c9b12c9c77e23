import Derived.Test.YtokpnfljjjjikaaGreatDoorQCbx1
namespace Go.Proofs.YtokpnfljjjjikaaGreatDoor.nK
open Go.RowKit Go.Proofs.aj.bQ Go.Proofs.aj.fR Go.Proofs.aj.cM
attribute [local go_sem] iY iZ ku kA ig ij jc jd
set_option linter.unusedVariables false
set_option linter.unusedSimpArgs false
attribute [local go_sem high] UI
mutual
def bA.j0:Nat→Bool→Bool→List ByteArray→ByteArray→ByteArray→Bool→Bool→List ByteArray→ByteArray→ByteArray→Bool→Option (Bool)
 | 0,_,_,_,_,_,_,_,_,_,_,_ =>none
 |k + 1,x26,IC,xH,ID,IE,IG,II,Aa,IJ,IK,IL=>if x26=true then (some false) else (bA.l0 k (xH.length:Int) 0 IC xH ID IE IG II Aa IJ IK IL)
def bA.l0:Nat→Int→Int→Bool→List ByteArray→ByteArray→ByteArray→Bool→Bool→List ByteArray→ByteArray→ByteArray→Bool→Option (Bool)
 | 0,_,_,_,_,_,_,_,_,_,_,_,_ =>none
 |k + 1,x29,x30,IC,xH,ID,IE,IG,II,Aa,IJ,IK,IL=>if x30 < x29 then (if 0≤x30 then (if x30 < (xH.length:Int) then (if x30 < (Aa.length:Int) then (if (jZ ByteArray.empty xH x30).toList=(jZ ByteArray.empty Aa x30).toList then (bA.l0 k x29 (wrap64 (x30 + 1)) IC xH ID IE IG II Aa IJ IK IL) else (some false)) else (none)) else (none)) else (none)) else (some true)
end
def bA.f (k:Nat) (aI:Bool) (dD:List ByteArray) (bp:ByteArray) (dY:ByteArray) (bC:Bool) (fS:Bool) (mL:List ByteArray) (fW:ByteArray) (qa:ByteArray) (fX:Bool):Option (Bool):=if (aI != fS)=true then (bA.j0 k true aI dD bp dY bC fS mL fW qa fX) else (if (!(bp.toList == fW.toList) || (!(dY.toList == qa.toList) || (!(bC == fX))))=true then (bA.j0 k true aI dD bp dY bC fS mL fW qa fX) else (bA.j0 k ((dD.length:Int) != (mL.length:Int)) aI dD bp dY bC fS mL fW qa fX))
theorem bA.fJ:∀ k,(∀ y0 y1 y2 y3 y4 y5 y6 y7 y8 y9 Ob,cH (bA.j0 k y0 y1 y2 y3 y4 y5 y6 y7 y8 y9 Ob) (bA.j0 (k + 1) y0 y1 y2 y3 y4 y5 y6 y7 y8 y9 Ob))∧(∀ y0 y1 y2 y3 y4 y5 y6 y7 y8 y9 Ob UJ,cH (bA.l0 k y0 y1 y2 y3 y4 y5 y6 y7 y8 y9 Ob UJ) (bA.l0 (k + 1) y0 y1 y2 y3 y4 y5 y6 y7 y8 y9 Ob UJ))
 | 0=>⟨fun _ _ _ _ _ _ _ _ _ _ _ r h=>by simp [bA.j0] at h,fun _ _ _ _ _ _ _ _ _ _ _ _ r h=>by simp [bA.l0] at h⟩
 |k + 1=>by
  obtain ⟨nP,ih1⟩:=bA.fJ k
  refine ⟨?_,?_⟩
  ·intro y0 y1 y2 y3 y4 y5 y6 y7 y8 y9 Ob
   unfold bA.j0
   repeat' first
   |(with_reducible exact nP _ _ _ _ _ _ _ _ _ _ _)
   |(with_reducible exact ih1 _ _ _ _ _ _ _ _ _ _ _ _)
   |(with_reducible exact cH.refl _)
   |(with_reducible exact cH.none _)
   |(with_reducible refine cH.ite ?_ ?_)
   |(with_reducible refine cH.bind ?_ (fun _ =>?_))
   |refine cH.ite ?_ ?_
   |refine cH.bind ?_ (fun _ =>?_)
  ·intro y0 y1 y2 y3 y4 y5 y6 y7 y8 y9 Ob UJ
   unfold bA.l0
   repeat' first
   |(with_reducible exact nP _ _ _ _ _ _ _ _ _ _ _)
   |(with_reducible exact ih1 _ _ _ _ _ _ _ _ _ _ _ _)
   |(with_reducible exact cH.refl _)
   |(with_reducible exact cH.none _)
   |(with_reducible refine cH.ite ?_ ?_)
   |(with_reducible refine cH.bind ?_ (fun _ =>?_))
   |refine cH.ite ?_ ?_
   |refine cH.bind ?_ (fun _ =>?_)
theorem bA.mono:∀ a0 a1 a2 a3 a4 a5 a6 a7 a8 a9 k,cH (bA.f k a0 a1 a2 a3 a4 a5 a6 a7 a8 a9) (bA.f (k + 1) a0 a1 a2 a3 a4 a5 a6 a7 a8 a9):=by
 intro a0 a1 a2 a3 a4 a5 a6 a7 a8 a9 k
 obtain ⟨nP,ih1⟩:=bA.fJ k
 unfold bA.f
 repeat' first
  |(with_reducible exact nP _ _ _ _ _ _ _ _ _ _ _)
  |(with_reducible exact ih1 _ _ _ _ _ _ _ _ _ _ _ _)
  |(with_reducible exact cH.refl _)
  |(with_reducible exact cH.none _)
  |(with_reducible refine cH.ite ?_ ?_)
  |(with_reducible refine cH.bind ?_ (fun _ =>?_))
  |refine cH.ite ?_ ?_
  |refine cH.bind ?_ (fun _ =>?_)
set_option maxHeartbeats 8000000 in
set_option maxRecDepth 100000 in
theorem bA.calls (k:Nat) (aI:Bool) (gW:Option Addr) (gX:Nat) (dD:List ByteArray) (bp:ByteArray) (dY:ByteArray) (bC:Bool) (fS:Bool) (Dh:Option Addr) (Di:Nat) (mL:List ByteArray) (fW:ByteArray) (qa:ByteArray) (fX:Bool) (r:Bool) (w:World) (CF:Kd.C Kd.string w gW dD.length dD) (CG:dD.length≤gX) (ZF:Kd.C Kd.string w Dh mL.length mL) (ZG:mL.length≤Di) (h:bA.f k aI dD bp dY bC fS mL fW qa fX=some r):
 Calls Tryz.prog 18 #[.agg #[.bool aI,.slice gW dD.length gX,.string bp,.string dY,.bool bC],.agg #[.bool fS,.slice Dh mL.length Di,.string fW,.string qa,.bool fX]] w fun e w'=>e= .returned (.bool r)∧Below w.heap.size w w':=by
 have Oc:=Tryz.underlying32
 have LR:=Tryz.underlying30
 have wR:=ah.mk CF
 have Ac:=ah.mk CG
 clear CF CG
 have ZH:=ah.mk ZF
 have ajq:=ah.mk ZG
 clear ZF ZG
 have HB:=ah.mk (Below.refl w.heap.size w)
 have H:(if (aI != fS)=true then (bA.j0 k true aI dD bp dY bC fS mL fW qa fX) else (if (!(bp.toList == fW.toList) || (!(dY.toList == qa.toList) || (!(bC == fX))))=true then (bA.j0 k true aI dD bp dY bC fS mL fW qa fX) else (bA.j0 k ((dD.length:Int) != (mL.length:Int)) aI dD bp dY bC fS mL fW qa fX)))=some r:=h
 clear h
 have Od:=ah.mk H
 clear H
 go_enter Tryz.func18,Tryz.ntmps18
 go_upto_region 1 with (first|((with_reducible refine cQ (N:=2) rfl ?_);(try (refine dS (by rfl) ?_;dsimp only));refine cE ?hg (N:=2) ?hd (cs:=#[.bool aI,.slice gW dD.length gX,.string bp,.string dY,.bool bC]) (t:=32) ?hr ?_;(case hd=>rfl);(case hg=>rfl);(case hr=>first|(go_simp;done)|(go_simp;rfl));intro gD hg w4 cY hb;have bL:=ah.mk (aC cw hb);have bS:=ah.mk (cY);have cG:=ah.mk ((dQ:w.heap.size≤gD));have dA:=ah.mk ((dQ:w.heap.size≤gD));clear HB;have HB:=bL;have fk:=bS;have ZI:=cG;have Lp:=dA;clear bL bS cG dA;clear hb cY hg)|((with_reducible refine cQ (N:=3) rfl ?_);(try (refine dS (by rfl) ?_;dsimp only));refine cE ?hg (N:=3) ?hd (cs:=#[.bool fS,.slice Dh mL.length Di,.string fW,.string qa,.bool fX]) (t:=32) ?hr ?_;(case hd=>rfl);(case hg=>rfl);(case hr=>first|(go_simp;done)|(go_simp;rfl));intro iP hg w5 cY hb;have bL:=ah.mk (aX (g:=gD) (o:= .cells #[.bool aI,.slice gW dD.length gX,.string bp,.string dY,.bool bC] 32 (0,0)) wB hb);have bS:=ah.mk (aC ND hb);have cG:=ah.mk (cY);have dA:=ah.mk ((BH:w.heap.size≤iP));have mG:=ah.mk ((BH:w.heap.size≤iP));have rS:=ah.mk ((NP:gD≠iP));have sL:=ah.mk ((NQ:iP≠gD));clear fk;clear HB;have fk:=bL;have HB:=bS;have gv:=cG;have ZJ:=dA;have T4:=mG;have oL:=rS;have oM:=sL;clear bL bS cG dA mG rS sL;clear hb cY hg))
 repeat (go_quiet (first|((with_reducible refine cQ (N:=2) rfl ?_);(try (refine dS (by rfl) ?_;dsimp only));refine cE ?hg (N:=2) ?hd (cs:=#[.bool aI,.slice gW dD.length gX,.string bp,.string dY,.bool bC]) (t:=32) ?hr ?_;(case hd=>rfl);(case hg=>rfl);(case hr=>first|(go_simp;done)|(go_simp;rfl));intro gD hg w4 cY hb;have bL:=ah.mk (aC cw hb);have bS:=ah.mk (cY);have cG:=ah.mk ((dQ:w.heap.size≤gD));have dA:=ah.mk ((dQ:w.heap.size≤gD));clear HB;have HB:=bL;have fk:=bS;have ZI:=cG;have Lp:=dA;clear bL bS cG dA;clear hb cY hg)|((with_reducible refine cQ (N:=3) rfl ?_);(try (refine dS (by rfl) ?_;dsimp only));refine cE ?hg (N:=3) ?hd (cs:=#[.bool fS,.slice Dh mL.length Di,.string fW,.string qa,.bool fX]) (t:=32) ?hr ?_;(case hd=>rfl);(case hg=>rfl);(case hr=>first|(go_simp;done)|(go_simp;rfl));intro iP hg w5 cY hb;have bL:=ah.mk (aX (g:=gD) (o:= .cells #[.bool aI,.slice gW dD.length gX,.string bp,.string dY,.bool bC] 32 (0,0)) wB hb);have bS:=ah.mk (aC ND hb);have cG:=ah.mk (cY);have dA:=ah.mk ((BH:w.heap.size≤iP));have mG:=ah.mk ((BH:w.heap.size≤iP));have rS:=ah.mk ((NP:gD≠iP));have sL:=ah.mk ((NQ:iP≠gD));clear fk;clear HB;have fk:=bL;have HB:=bS;have gv:=cG;have ZJ:=dA;have T4:=mG;have oL:=rS;have oM:=sL;clear bL bS cG dA mG rS sL;clear hb cY hg));go_upto_region 1 with (first|((with_reducible refine cQ (N:=2) rfl ?_);(try (refine dS (by rfl) ?_;dsimp only));refine cE ?hg (N:=2) ?hd (cs:=#[.bool aI,.slice gW dD.length gX,.string bp,.string dY,.bool bC]) (t:=32) ?hr ?_;(case hd=>rfl);(case hg=>rfl);(case hr=>first|(go_simp;done)|(go_simp;rfl));intro gD hg w4 cY hb;have bL:=ah.mk (aC cw hb);have bS:=ah.mk (cY);have cG:=ah.mk ((dQ:w.heap.size≤gD));have dA:=ah.mk ((dQ:w.heap.size≤gD));clear HB;have HB:=bL;have fk:=bS;have ZI:=cG;have Lp:=dA;clear bL bS cG dA;clear hb cY hg)|((with_reducible refine cQ (N:=3) rfl ?_);(try (refine dS (by rfl) ?_;dsimp only));refine cE ?hg (N:=3) ?hd (cs:=#[.bool fS,.slice Dh mL.length Di,.string fW,.string qa,.bool fX]) (t:=32) ?hr ?_;(case hd=>rfl);(case hg=>rfl);(case hr=>first|(go_simp;done)|(go_simp;rfl));intro iP hg w5 cY hb;have bL:=ah.mk (aX (g:=gD) (o:= .cells #[.bool aI,.slice gW dD.length gX,.string bp,.string dY,.bool bC] 32 (0,0)) wB hb);have bS:=ah.mk (aC ND hb);have cG:=ah.mk (cY);have dA:=ah.mk ((BH:w.heap.size≤iP));have mG:=ah.mk ((BH:w.heap.size≤iP));have rS:=ah.mk ((NP:gD≠iP));have sL:=ah.mk ((NQ:iP≠gD));clear fk;clear HB;have fk:=bL;have HB:=bS;have gv:=cG;have ZJ:=dA;have T4:=mG;have oL:=rS;have oM:=sL;clear bL bS cG dA mG rS sL;clear hb cY hg)))
 (try simp only [Act.put,List.setIfInBounds_toArray,List.set_cons_zero,List.set_cons_succ])
 go_cut [26] (fun v26 wc=>∃ (kq:Nat) (Qi:Bool),v26= .bool Qi∧ah (bA.j0 kq Qi aI dD bp dY bC fS mL fW qa fX=some r)∧ah (kq≤k)∧ah (wc.heap[gD]? =some (.cells #[.bool aI,(.slice gW dD.length gX),.string bp,.string dY,.bool bC] 32 (0,0)))∧ah (wc.heap[iP]? =some (.cells #[.bool fS,(.slice Dh mL.length Di),.string fW,.string qa,.bool fX] 32 (0,0)))∧ah (Below w.heap.size w wc))
 case first=>
  have H:=Od.out
  clear Od
  by_cases c6:(aI != fS)=true
  ·rw [if_pos c6] at H
   have pP:(aI != fS)=true:=c6
   (try (have BU:decide (aI=fS)=false:=by simpa using c6))
   (try (have aaH:(aI == fS)=false:=by simpa using c6))
   (try (have alF: ¬ (aI=fS):=by simpa using c6))
   clear c6
   (first|rw [pP]|(simp only [cR,cW];rw [pP])|skip)
   have H':=ah.mk H
   clear H
   have alG:=oL.out
   have alH:=oM.out
   have wL:w5.cell? ⟨gD,0,none⟩=some (.bool aI):=(af fk.out 0).trans rfl
   have wM:w5.cell? ⟨gD,1,none⟩=some (.slice gW dD.length gX):=(af fk.out 1).trans rfl
   have BV:w5.cell? ⟨gD,2,none⟩=some (.string bp):=(af fk.out 2).trans rfl
   have E1:w5.cell? ⟨gD,3,none⟩=some (.string dY):=(af fk.out 3).trans rfl
   have E2:w5.cell? ⟨gD,4,none⟩=some (.bool bC):=(af fk.out 4).trans rfl
   have wN:=aa fk.out 0
   have wO:=aa fk.out 1
   have BW:=aa fk.out 2
   have E3:=aa fk.out 3
   have E4:=aa fk.out 4
   have pX:w5.cell? ⟨iP,0,none⟩=some (.bool fS):=(af gv.out 0).trans rfl
   have pY:w5.cell? ⟨iP,1,none⟩=some (.slice Dh mL.length Di):=(af gv.out 1).trans rfl
   have wS:w5.cell? ⟨iP,2,none⟩=some (.string fW):=(af gv.out 2).trans rfl
   have zo:w5.cell? ⟨iP,3,none⟩=some (.string qa):=(af gv.out 3).trans rfl
   have zq:w5.cell? ⟨iP,4,none⟩=some (.bool fX):=(af gv.out 4).trans rfl
   have pZ:=aa gv.out 0
   have p8:=aa gv.out 1
   have wT:=aa gv.out 2
   have zu:=aa gv.out 3
   have zw:=aa gv.out 4
   go_wp2
   repeat (go_quiet (fail);try go_wp2)
   go_meet
   case rel=>exact ⟨_,(true),dG,H',⟨mJ⟩,⟨wB⟩,⟨ED⟩,⟨wC⟩⟩
  ·rw [if_neg c6] at H
   have pP:(aI != fS)=false:=by simpa using c6
   (try (have BU:decide (aI=fS)=true:=by simpa using c6))
   (try (have aaH:(aI == fS)=true:=by simpa using c6))
   clear c6
   (first|rw [pP]|(simp only [cR,cW];rw [pP])|skip)
   by_cases c10:(!(bp.toList == fW.toList) || (!(dY.toList == qa.toList) || (!(bC == fX))))=true
   ·rw [if_pos c10] at H
    have qy:(!(bp.toList == fW.toList) || (!(dY.toList == qa.toList) || (!(bC == fX))))=true:=c10
    clear c10
    have H':=ah.mk H
    clear H
    have ajr:=oL.out
    have ajs:=oM.out
    have uF:w5.cell? ⟨gD,0,none⟩=some (.bool aI):=(af fk.out 0).trans rfl
    have uG:w5.cell? ⟨gD,1,none⟩=some (.slice gW dD.length gX):=(af fk.out 1).trans rfl
    have xI:w5.cell? ⟨gD,2,none⟩=some (.string bp):=(af fk.out 2).trans rfl
    have Ad:w5.cell? ⟨gD,3,none⟩=some (.string dY):=(af fk.out 3).trans rfl
    have Ae:w5.cell? ⟨gD,4,none⟩=some (.bool bC):=(af fk.out 4).trans rfl
    have uH:=aa fk.out 0
    have uI:=aa fk.out 1
    have xJ:=aa fk.out 2
    have Af:=aa fk.out 3
    have Ag:=aa fk.out 4
    have qi:w5.cell? ⟨iP,0,none⟩=some (.bool fS):=(af gv.out 0).trans rfl
    have qj:w5.cell? ⟨iP,1,none⟩=some (.slice Dh mL.length Di):=(af gv.out 1).trans rfl
    have uJ:w5.cell? ⟨iP,2,none⟩=some (.string fW):=(af gv.out 2).trans rfl
    have DK:w5.cell? ⟨iP,3,none⟩=some (.string qa):=(af gv.out 3).trans rfl
    have DL:w5.cell? ⟨iP,4,none⟩=some (.bool fX):=(af gv.out 4).trans rfl
    have qm:=aa gv.out 0
    have qo:=aa gv.out 1
    have uK:=aa gv.out 2
    have DM:=aa gv.out 3
    have DN:=aa gv.out 4
    go_wp2
    repeat (go_quiet (fail);try go_wp2)
    go_meet
    case rel=>exact ⟨_,(true),dG,H',⟨mJ⟩,⟨wB⟩,⟨ED⟩,⟨wC⟩⟩
   ·rw [if_neg c10] at H
    have qy:(!(bp.toList == fW.toList) || (!(dY.toList == qa.toList) || (!(bC == fX))))=false:=by simpa using c10
    clear c10
    have H':=ah.mk H
    clear H
    have acZ:=oL.out
    have ac0:=oM.out
    have uL:w5.cell? ⟨gD,0,none⟩=some (.bool aI):=(af fk.out 0).trans rfl
    have uM:w5.cell? ⟨gD,1,none⟩=some (.slice gW dD.length gX):=(af fk.out 1).trans rfl
    have uN:w5.cell? ⟨gD,2,none⟩=some (.string bp):=(af fk.out 2).trans rfl
    have uO:w5.cell? ⟨gD,3,none⟩=some (.string dY):=(af fk.out 3).trans rfl
    have uP:w5.cell? ⟨gD,4,none⟩=some (.bool bC):=(af fk.out 4).trans rfl
    have uQ:=aa fk.out 0
    have uR:=aa fk.out 1
    have uS:=aa fk.out 2
    have uT:=aa fk.out 3
    have uU:=aa fk.out 4
    have nu:w5.cell? ⟨iP,0,none⟩=some (.bool fS):=(af gv.out 0).trans rfl
    have nv:w5.cell? ⟨iP,1,none⟩=some (.slice Dh mL.length Di):=(af gv.out 1).trans rfl
    have qp:w5.cell? ⟨iP,2,none⟩=some (.string fW):=(af gv.out 2).trans rfl
    have sM:w5.cell? ⟨iP,3,none⟩=some (.string qa):=(af gv.out 3).trans rfl
    have sN:w5.cell? ⟨iP,4,none⟩=some (.bool fX):=(af gv.out 4).trans rfl
    have ny:=aa gv.out 0
    have nA:=aa gv.out 1
    have qq:=aa gv.out 2
    have sO:=aa gv.out 3
    have sP:=aa gv.out 4
    go_wp2
    repeat (go_quiet (fail);try go_wp2)
    go_meet
    case rel=>exact ⟨_,(((dD.length:Int) != (mL.length:Int))),dG,H',⟨mJ⟩,⟨wB⟩,⟨ED⟩,⟨wC⟩⟩
 case rest=>
  clear Od
  try clear c1
  try clear p2
  try clear c6
  try clear pP
  try clear BU
  try clear aaH
  try clear c7
  try clear c10
  try clear qy
  try clear c11
  try clear c14
  try clear uF
  try clear uG
  try clear xI
  try clear Ad
  try clear Ae
  try clear qi
  try clear qj
  try clear uJ
  try clear DK
  try clear DL
  try clear uL
  try clear uM
  try clear uN
  try clear uO
  try clear uP
  try clear nu
  try clear nv
  try clear qp
  try clear sM
  try clear sN
  try clear wL
  try clear wM
  try clear BV
  try clear E1
  try clear E2
  try clear pX
  try clear pY
  try clear wS
  try clear zo
  try clear zq
  try clear uH
  try clear uI
  try clear xJ
  try clear Af
  try clear Ag
  try clear qm
  try clear qo
  try clear uK
  try clear DM
  try clear DN
  try clear uQ
  try clear uR
  try clear uS
  try clear uT
  try clear uU
  try clear ny
  try clear nA
  try clear qq
  try clear sO
  try clear sP
  try clear wN
  try clear wO
  try clear BW
  try clear E3
  try clear E4
  try clear pZ
  try clear p8
  try clear wT
  try clear zu
  try clear zw
  obtain ⟨kq,Qi,rfl,HA,WO,fk,gv,HB⟩:=hcut
  cases kq with
  |zero=>exact absurd HA.out (by simp [bA.j0])
  |succ qb=>
   have H:=HA.out
   clear HA
   simp only [bA.j0] at H
   by_cases c17:Qi=true
   ·subst c17
    have H1:(some false)=some r:=by rw [if_pos rfl] at H;exact H
    clear H
    have H:=H1
    clear H1
    obtain rfl:=Option.some.inj H
    go_wp2
    repeat (go_quiet (fail);try go_wp2)
    go_ret
    exact ⟨cO,wC⟩
   ·replace c17:=Bool.eq_false_iff.mpr c17
    subst c17
    have H1:(bA.l0 qb (dD.length:Int) 0 aI dD bp dY bC fS mL fW qa fX)=some r:=by rw [if_neg (show ¬ (false=true) by decide)] at H;exact H
    clear H
    have H:=H1
    clear H1
    have H':=ah.mk H
    clear H
    have ajt:=oL.out
    have aju:=oM.out
    have Qj:wc.cell? ⟨gD,0,none⟩=some (.bool aI):=(af fk.out 0).trans rfl
    have Qk:wc.cell? ⟨gD,1,none⟩=some (.slice gW dD.length gX):=(af fk.out 1).trans rfl
    have Ql:wc.cell? ⟨gD,2,none⟩=some (.string bp):=(af fk.out 2).trans rfl
    have Qm:wc.cell? ⟨gD,3,none⟩=some (.string dY):=(af fk.out 3).trans rfl
    have Qn:wc.cell? ⟨gD,4,none⟩=some (.bool bC):=(af fk.out 4).trans rfl
    have Qo:=aa fk.out 0
    have Qp:=aa fk.out 1
    have Qq:=aa fk.out 2
    have Qr:=aa fk.out 3
    have Qs:=aa fk.out 4
    go_wp2
    repeat (go_quiet (fail);try go_wp2)
    go_loopg [30] qb (fun kq v30 w'=>∃ (jU:Int),v30= .int .i64 jU∧ah (bA.l0 kq (dD.length:Int) jU aI dD bp dY bC fS mL fW qa fX=some r)∧ah (kq≤qb)∧ah (w'.heap[gD]? =some (.cells #[.bool aI,(.slice gW dD.length gX),.string bp,.string dY,.bool bC] 32 (0,0)))∧ah (w'.heap[iP]? =some (.cells #[.bool fS,(.slice Dh mL.length Di),.string fW,.string qa,.bool fX] 32 (0,0)))∧ah (Below w.heap.size w w'))
    case atStart=>exact ⟨(0),dG,H',⟨Nat.le_refl _⟩,⟨wB⟩,⟨ED⟩,⟨wC⟩⟩
    case round=>
     clear H'
     try clear c1
     try clear p2
     try clear c6
     try clear pP
     try clear BU
     try clear aaH
     try clear c7
     try clear c10
     try clear qy
     try clear c11
     try clear c14
     try clear c17
     try clear c18
     try clear uF
     try clear uG
     try clear xI
     try clear Ad
     try clear Ae
     try clear qi
     try clear qj
     try clear uJ
     try clear DK
     try clear DL
     try clear uL
     try clear uM
     try clear uN
     try clear uO
     try clear uP
     try clear nu
     try clear nv
     try clear qp
     try clear sM
     try clear sN
     try clear Qj
     try clear Qk
     try clear Ql
     try clear Qm
     try clear Qn
     try clear wL
     try clear wM
     try clear BV
     try clear E1
     try clear E2
     try clear pX
     try clear pY
     try clear wS
     try clear zo
     try clear zq
     try clear uH
     try clear uI
     try clear xJ
     try clear Af
     try clear Ag
     try clear qm
     try clear qo
     try clear uK
     try clear DM
     try clear DN
     try clear uQ
     try clear uR
     try clear uS
     try clear uT
     try clear uU
     try clear ny
     try clear nA
     try clear qq
     try clear sO
     try clear sP
     try clear Qo
     try clear Qp
     try clear Qq
     try clear Qr
     try clear Qs
     try clear wN
     try clear wO
     try clear BW
     try clear E3
     try clear E4
     try clear pZ
     try clear p8
     try clear wT
     try clear zu
     try clear zw
     try clear p2
     obtain ⟨jU,rfl,HA,Oe,fk,gv,HB⟩:=hrel
     cases gk with
     |zero=>exact absurd HA.out (by simp [bA.l0])
     |succ k2=>
      have H:=HA.out
      clear HA
      simp only [bA.l0] at H
      by_cases c20:jU < (dD.length:Int)
      ·rw [if_pos c20] at H
       have GL:decide (jU < (dD.length:Int))=true:=decide_eq_true c20
       clear c20
       by_cases c21: 0≤jU
       ·rw [if_pos c21] at H
        have Qt:decide (0≤jU)=true:=decide_eq_true c21
        clear c21
        by_cases Gf:jU < (dD.length:Int)
        ·rw [if_pos Gf] at H
         have Qu:decide (jU < (dD.length:Int))=true:=decide_eq_true Gf
         clear Gf
         by_cases UK:jU < (mL.length:Int)
         ·rw [if_pos UK] at H
          have ajv:decide (jU < (mL.length:Int))=true:=decide_eq_true UK
          clear UK
          by_cases c24:(jZ ByteArray.empty dD jU).toList=(jZ ByteArray.empty mL jU).toList
          ·rw [if_pos c24] at H
           have LS:((jZ ByteArray.empty dD jU).toList == (jZ ByteArray.empty mL jU).toList)=true:=beq_iff_eq.mpr c24
           have ZK:((jZ ByteArray.empty dD jU).toList != (jZ ByteArray.empty mL jU).toList)=false:=bne_eq_false_iff_eq.mpr c24
           clear c24
           have H':=ah.mk H
           clear H
           have ajw:=oL.out
           have ajx:=oM.out
           have IM:wr.cell? ⟨gD,0,none⟩=some (.bool aI):=(af fk.out 0).trans rfl
           have IP:wr.cell? ⟨gD,1,none⟩=some (.slice gW dD.length gX):=(af fk.out 1).trans rfl
           have IQ:wr.cell? ⟨gD,2,none⟩=some (.string bp):=(af fk.out 2).trans rfl
           have Xc:wr.cell? ⟨gD,3,none⟩=some (.string dY):=(af fk.out 3).trans rfl
           have Xd:wr.cell? ⟨gD,4,none⟩=some (.bool bC):=(af fk.out 4).trans rfl
           have IU:=aa fk.out 0
           have IV:=aa fk.out 1
           have IW:=aa fk.out 2
           have Xe:=aa fk.out 3
           have Xf:=aa fk.out 4
           have Og: 0≤(jU:Int):=of_decide_eq_true cL
           have Oh:jU < (dD.length:Int):=of_decide_eq_true cL
           obtain ⟨ac1,aaI,uV⟩:=Kd.jk wR.out jU Og Oh
           cases aaI
           replace uV:=(HB.out.cell (World.block_lt_of_cell? w _ uV)).trans uV
           replace Og:=eq_true Og
           replace Oh:=eq_true Oh
           have Qv:wr.cell? ⟨iP,0,none⟩=some (.bool fS):=(af gv.out 0).trans rfl
           have Qw:wr.cell? ⟨iP,1,none⟩=some (.slice Dh mL.length Di):=(af gv.out 1).trans rfl
           have Xg:wr.cell? ⟨iP,2,none⟩=some (.string fW):=(af gv.out 2).trans rfl
           have Xh:wr.cell? ⟨iP,3,none⟩=some (.string qa):=(af gv.out 3).trans rfl
           have Xi:wr.cell? ⟨iP,4,none⟩=some (.bool fX):=(af gv.out 4).trans rfl
           have Qx:=aa gv.out 0
           have Qy:=aa gv.out 1
           have Xj:=aa gv.out 2
           have Xk:=aa gv.out 3
           have Xl:=aa gv.out 4
           have Oi: 0≤(jU:Int):=of_decide_eq_true cL
           have Oj:jU < (mL.length:Int):=of_decide_eq_true cL
           obtain ⟨ac2,aaJ,uW⟩:=Kd.jk ZH.out jU Oi Oj
           cases aaJ
           replace uW:=(HB.out.cell (World.block_lt_of_cell? w _ uW)).trans uW
           replace Oi:=eq_true Oi
           replace Oj:=eq_true Oj
           go_wp2
           repeat (go_quiet (fail);try go_wp2)
           go_roundg k2
           case measure=>have:=WO.out;have:=Oe.out;omega
           case rel=>exact ⟨(wrap64 (jU + 1)),dG,H',⟨by have:=WO.out;have:=Oe.out;omega⟩,⟨wB⟩,⟨ED⟩,⟨wC⟩⟩
          ·rw [if_neg c24] at H
           have LS:((jZ ByteArray.empty dD jU).toList == (jZ ByteArray.empty mL jU).toList)=false:=beq_eq_false_iff_ne.mpr c24
           have ZK:((jZ ByteArray.empty dD jU).toList != (jZ ByteArray.empty mL jU).toList)=true:=bne_iff_ne.mpr c24
           obtain rfl:=Option.some.inj H
           have ajy:=oL.out
           have ajz:=oM.out
           have xK:wr.cell? ⟨gD,0,none⟩=some (.bool aI):=(af fk.out 0).trans rfl
           have xL:wr.cell? ⟨gD,1,none⟩=some (.slice gW dD.length gX):=(af fk.out 1).trans rfl
           have Ah:wr.cell? ⟨gD,2,none⟩=some (.string bp):=(af fk.out 2).trans rfl
           have Qz:wr.cell? ⟨gD,3,none⟩=some (.string dY):=(af fk.out 3).trans rfl
           have QA:wr.cell? ⟨gD,4,none⟩=some (.bool bC):=(af fk.out 4).trans rfl
           have xM:=aa fk.out 0
           have xN:=aa fk.out 1
           have Ai:=aa fk.out 2
           have QB:=aa fk.out 3
           have QC:=aa fk.out 4
           have Og: 0≤(jU:Int):=of_decide_eq_true cL
           have Oh:jU < (dD.length:Int):=of_decide_eq_true cL
           obtain ⟨ac1,aaI,uV⟩:=Kd.jk wR.out jU Og Oh
           cases aaI
           replace uV:=(HB.out.cell (World.block_lt_of_cell? w _ uV)).trans uV
           replace Og:=eq_true Og
           replace Oh:=eq_true Oh
           have DR:wr.cell? ⟨iP,0,none⟩=some (.bool fS):=(af gv.out 0).trans rfl
           have DT:wr.cell? ⟨iP,1,none⟩=some (.slice Dh mL.length Di):=(af gv.out 1).trans rfl
           have DU:wr.cell? ⟨iP,2,none⟩=some (.string fW):=(af gv.out 2).trans rfl
           have QD:wr.cell? ⟨iP,3,none⟩=some (.string qa):=(af gv.out 3).trans rfl
           have QE:wr.cell? ⟨iP,4,none⟩=some (.bool fX):=(af gv.out 4).trans rfl
           have DV:=aa gv.out 0
           have DW:=aa gv.out 1
           have DX:=aa gv.out 2
           have QF:=aa gv.out 3
           have QG:=aa gv.out 4
           have Oi: 0≤(jU:Int):=of_decide_eq_true cL
           have Oj:jU < (mL.length:Int):=of_decide_eq_true cL
           obtain ⟨ac2,aaJ,uW⟩:=Kd.jk ZH.out jU Oi Oj
           cases aaJ
           replace uW:=(HB.out.cell (World.block_lt_of_cell? w _ uW)).trans uW
           replace Oi:=eq_true Oi
           replace Oj:=eq_true Oj
           go_wp2
           repeat (go_quiet (fail);try go_wp2)
           go_ret
           exact ⟨cO,wC⟩
         ·rw [if_neg UK] at H
          exact absurd H aV
        ·rw [if_neg Gf] at H
         exact absurd H aV
       ·rw [if_neg c21] at H
        exact absurd H aV
      ·rw [if_neg c20] at H
       have GL:decide (jU < (dD.length:Int))=false:=decide_eq_false c20
       clear c20
       obtain rfl:=Option.some.inj H
       go_wp2
       repeat (go_quiet (fail);try go_wp2)
       go_ret
       exact ⟨cO,wC⟩
end Go.Proofs.YtokpnfljjjjikaaGreatDoor.nK
