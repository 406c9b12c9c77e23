import Derived.Test.YtokpnfljjjjikaaGreatDoorZo
import Derived.Test.YtokpnfljjjjikaaGreatDoorQCbx0
import Derived.Test.YtokpnfljjjjikaaGreatDoorQCbx1
namespace Go.Proofs.YtokpnfljjjjikaaGreatDoor.nX
open Go.RowKit Go.Proofs.aj.bW Go.Proofs.aj.fW Go.Proofs.aj.dz
attribute [local go_sem] jg jh kO kP iK iL ji jk
set_option linter.unusedVariables false
set_option linter.unusedSimpArgs false
attribute [local go_sem high] UU
mutual
def bH.j0:Nat→Bool→Bool→List ByteArray→ByteArray→ByteArray→Bool→Bool→List ByteArray→ByteArray→ByteArray→Bool→Option (Bool)
 | 0,_,_,_,_,_,_,_,_,_,_,_ =>none
 |k + 1,x26,IP,xP,IQ,IU,IV,IW,zX,IX,IY,IZ=>if x26=true then (some false) else (bH.l0 k (xP.length:Int) 0 IP xP IQ IU IV IW zX IX IY IZ)
def bH.l0:Nat→Int→Int→Bool→List ByteArray→ByteArray→ByteArray→Bool→Bool→List ByteArray→ByteArray→ByteArray→Bool→Option (Bool)
 | 0,_,_,_,_,_,_,_,_,_,_,_,_ =>none
 |k + 1,x29,x30,IP,xP,IQ,IU,IV,IW,zX,IX,IY,IZ=>if x30 < x29 then (if 0≤x30 then (if x30 < (xP.length:Int) then (if x30 < (zX.length:Int) then (if (kC ByteArray.empty xP x30).toList=(kC ByteArray.empty zX x30).toList then (bH.l0 k x29 (wrap64 (x30 + 1)) IP xP IQ IU IV IW zX IX IY IZ) else (some false)) else (none)) else (none)) else (none)) else (some true)
end
def bH.f (k:Nat) (aK:Bool) (dR:List ByteArray) (bg:ByteArray) (eD:ByteArray) (bw:Bool) (fX:Bool) (mW:List ByteArray) (gq:ByteArray) (qo:ByteArray) (gu:Bool):Option (Bool):=if (aK != fX)=true then (bH.j0 k true aK dR bg eD bw fX mW gq qo gu) else (if (!(bg.toList == gq.toList) || (!(eD.toList == qo.toList) || (!(bw == gu))))=true then (bH.j0 k true aK dR bg eD bw fX mW gq qo gu) else (bH.j0 k ((dR.length:Int) != (mW.length:Int)) aK dR bg eD bw fX mW gq qo gu))
theorem bH.fR:∀ k,(∀ y0 y1 y2 y3 y4 y5 y6 y7 y8 y9 Oh,cR (bH.j0 k y0 y1 y2 y3 y4 y5 y6 y7 y8 y9 Oh) (bH.j0 (k + 1) y0 y1 y2 y3 y4 y5 y6 y7 y8 y9 Oh))∧(∀ y0 y1 y2 y3 y4 y5 y6 y7 y8 y9 Oh UW,cR (bH.l0 k y0 y1 y2 y3 y4 y5 y6 y7 y8 y9 Oh UW) (bH.l0 (k + 1) y0 y1 y2 y3 y4 y5 y6 y7 y8 y9 Oh UW))
 | 0=>⟨fun _ _ _ _ _ _ _ _ _ _ _ r h=>by simp [bH.j0] at h,fun _ _ _ _ _ _ _ _ _ _ _ _ r h=>by simp [bH.l0] at h⟩
 |k + 1=>by
  obtain ⟨nY,ih1⟩:=bH.fR k
  refine ⟨?_,?_⟩
  ·intro y0 y1 y2 y3 y4 y5 y6 y7 y8 y9 Oh
   unfold bH.j0
   repeat' first
   |(with_reducible exact nY _ _ _ _ _ _ _ _ _ _ _)
   |(with_reducible exact ih1 _ _ _ _ _ _ _ _ _ _ _ _)
   |(with_reducible exact cR.refl _)
   |(with_reducible exact cR.none _)
   |(with_reducible refine cR.ite ?_ ?_)
   |(with_reducible refine cR.bind ?_ (fun _ =>?_))
   |refine cR.ite ?_ ?_
   |refine cR.bind ?_ (fun _ =>?_)
  ·intro y0 y1 y2 y3 y4 y5 y6 y7 y8 y9 Oh UW
   unfold bH.l0
   repeat' first
   |(with_reducible exact nY _ _ _ _ _ _ _ _ _ _ _)
   |(with_reducible exact ih1 _ _ _ _ _ _ _ _ _ _ _ _)
   |(with_reducible exact cR.refl _)
   |(with_reducible exact cR.none _)
   |(with_reducible refine cR.ite ?_ ?_)
   |(with_reducible refine cR.bind ?_ (fun _ =>?_))
   |refine cR.ite ?_ ?_
   |refine cR.bind ?_ (fun _ =>?_)
theorem bH.mono:∀ a0 a1 a2 a3 a4 a5 a6 a7 a8 a9 k,cR (bH.f k a0 a1 a2 a3 a4 a5 a6 a7 a8 a9) (bH.f (k + 1) a0 a1 a2 a3 a4 a5 a6 a7 a8 a9):=by
 intro a0 a1 a2 a3 a4 a5 a6 a7 a8 a9 k
 obtain ⟨nY,ih1⟩:=bH.fR k
 unfold bH.f
 repeat' first
  |(with_reducible exact nY _ _ _ _ _ _ _ _ _ _ _)
  |(with_reducible exact ih1 _ _ _ _ _ _ _ _ _ _ _ _)
  |(with_reducible exact cR.refl _)
  |(with_reducible exact cR.none _)
  |(with_reducible refine cR.ite ?_ ?_)
  |(with_reducible refine cR.bind ?_ (fun _ =>?_))
  |refine cR.ite ?_ ?_
  |refine cR.bind ?_ (fun _ =>?_)
set_option maxHeartbeats 8000000 in
set_option maxRecDepth 100000 in
theorem bH.calls (k:Nat) (aK:Bool) (iA:Option Addr) (iB:Nat) (dR:List ByteArray) (bg:ByteArray) (eD:ByteArray) (bw:Bool) (fX:Bool) (C4:Option Addr) (C5:Nat) (mW:List ByteArray) (gq:ByteArray) (qo:ByteArray) (gu:Bool) (r:Bool) (w:World) (Cu:Kd.C Kd.string w iA dR.length dR) (Cv:dR.length≤iB) (aaw:Kd.C Kd.string w C4 mW.length mW) (aax:mW.length≤C5) (h:bH.f k aK dR bg eD bw fX mW gq qo gu=some r):
 Calls Tryz.prog 18 #[.agg #[.bool aK,.slice iA dR.length iB,.string bg,.string eD,.bool bw],.agg #[.bool fX,.slice C4 mW.length C5,.string gq,.string qo,.bool gu]] w fun e w'=>e= .returned (.bool r)∧Below w.heap.size w w':=by
 have Oi:=Tryz.underlying32
 have LI:=Tryz.underlying30
 have wT:=ah.mk Cu
 have zY:=ah.mk Cv
 clear Cu Cv
 have aay:=ah.mk aaw
 have aoC:=ah.mk aax
 clear aaw aax
 have HB:=ah.mk (Below.refl w.heap.size w)
 have H:(if (aK != fX)=true then (bH.j0 k true aK dR bg eD bw fX mW gq qo gu) else (if (!(bg.toList == gq.toList) || (!(eD.toList == qo.toList) || (!(bw == gu))))=true then (bH.j0 k true aK dR bg eD bw fX mW gq qo gu) else (bH.j0 k ((dR.length:Int) != (mW.length:Int)) aK dR bg eD bw fX mW gq qo gu)))=some r:=h
 clear h
 have UX:=ah.mk H
 clear H
 go_enter Tryz.func18,Tryz.ntmps18
 go_upto_region 1 with (first|((with_reducible refine cG (N:=2) rfl ?_);(try (refine dg (by rfl) ?_;dsimp only));refine cj ?hg (N:=2) ?hd (cs:=#[.bool aK,.slice iA dR.length iB,.string bg,.string eD,.bool bw]) (t:=32) ?hr ?_;(case hd=>rfl);(case hg=>rfl);(case hr=>first|(go_simp;done)|(go_simp;rfl));intro gQ hg w4 cJ hb;have bD:=ah.mk (ay cw hb);have bN:=ah.mk (cJ);have cz:=ah.mk ((dK:w.heap.size≤gQ));have cY:=ah.mk ((dK:w.heap.size≤gQ));clear HB;have HB:=bD;have fE:=bN;have aaz:=cz;have Lg:=cY;clear bD bN cz cY;clear hb cJ hg)|((with_reducible refine cG (N:=3) rfl ?_);(try (refine dg (by rfl) ?_;dsimp only));refine cj ?hg (N:=3) ?hd (cs:=#[.bool fX,.slice C4 mW.length C5,.string gq,.string qo,.bool gu]) (t:=32) ?hr ?_;(case hd=>rfl);(case hg=>rfl);(case hr=>first|(go_simp;done)|(go_simp;rfl));intro iY hg w5 cJ hb;have bD:=ah.mk (aJ (g:=gQ) (o:= .cells #[.bool aK,.slice iA dR.length iB,.string bg,.string eD,.bool bw] 32 (0,0)) wH hb);have bN:=ah.mk (ay NG hb);have cz:=ah.mk (cJ);have cY:=ah.mk ((BB:w.heap.size≤iY));have jv:=ah.mk ((BB:w.heap.size≤iY));have om:=ah.mk ((NT:gQ≠iY));have oZ:=ah.mk ((NU:iY≠gQ));clear fE;clear HB;have fE:=bD;have HB:=bN;have gH:=cz;have aaA:=cY;have Ua:=jv;have o7:=om;have o8:=oZ;clear bD bN cz cY jv om oZ;clear hb cJ hg))
 repeat (go_quiet (first|((with_reducible refine cG (N:=2) rfl ?_);(try (refine dg (by rfl) ?_;dsimp only));refine cj ?hg (N:=2) ?hd (cs:=#[.bool aK,.slice iA dR.length iB,.string bg,.string eD,.bool bw]) (t:=32) ?hr ?_;(case hd=>rfl);(case hg=>rfl);(case hr=>first|(go_simp;done)|(go_simp;rfl));intro gQ hg w4 cJ hb;have bD:=ah.mk (ay cw hb);have bN:=ah.mk (cJ);have cz:=ah.mk ((dK:w.heap.size≤gQ));have cY:=ah.mk ((dK:w.heap.size≤gQ));clear HB;have HB:=bD;have fE:=bN;have aaz:=cz;have Lg:=cY;clear bD bN cz cY;clear hb cJ hg)|((with_reducible refine cG (N:=3) rfl ?_);(try (refine dg (by rfl) ?_;dsimp only));refine cj ?hg (N:=3) ?hd (cs:=#[.bool fX,.slice C4 mW.length C5,.string gq,.string qo,.bool gu]) (t:=32) ?hr ?_;(case hd=>rfl);(case hg=>rfl);(case hr=>first|(go_simp;done)|(go_simp;rfl));intro iY hg w5 cJ hb;have bD:=ah.mk (aJ (g:=gQ) (o:= .cells #[.bool aK,.slice iA dR.length iB,.string bg,.string eD,.bool bw] 32 (0,0)) wH hb);have bN:=ah.mk (ay NG hb);have cz:=ah.mk (cJ);have cY:=ah.mk ((BB:w.heap.size≤iY));have jv:=ah.mk ((BB:w.heap.size≤iY));have om:=ah.mk ((NT:gQ≠iY));have oZ:=ah.mk ((NU:iY≠gQ));clear fE;clear HB;have fE:=bD;have HB:=bN;have gH:=cz;have aaA:=cY;have Ua:=jv;have o7:=om;have o8:=oZ;clear bD bN cz cY jv om oZ;clear hb cJ hg));go_upto_region 1 with (first|((with_reducible refine cG (N:=2) rfl ?_);(try (refine dg (by rfl) ?_;dsimp only));refine cj ?hg (N:=2) ?hd (cs:=#[.bool aK,.slice iA dR.length iB,.string bg,.string eD,.bool bw]) (t:=32) ?hr ?_;(case hd=>rfl);(case hg=>rfl);(case hr=>first|(go_simp;done)|(go_simp;rfl));intro gQ hg w4 cJ hb;have bD:=ah.mk (ay cw hb);have bN:=ah.mk (cJ);have cz:=ah.mk ((dK:w.heap.size≤gQ));have cY:=ah.mk ((dK:w.heap.size≤gQ));clear HB;have HB:=bD;have fE:=bN;have aaz:=cz;have Lg:=cY;clear bD bN cz cY;clear hb cJ hg)|((with_reducible refine cG (N:=3) rfl ?_);(try (refine dg (by rfl) ?_;dsimp only));refine cj ?hg (N:=3) ?hd (cs:=#[.bool fX,.slice C4 mW.length C5,.string gq,.string qo,.bool gu]) (t:=32) ?hr ?_;(case hd=>rfl);(case hg=>rfl);(case hr=>first|(go_simp;done)|(go_simp;rfl));intro iY hg w5 cJ hb;have bD:=ah.mk (aJ (g:=gQ) (o:= .cells #[.bool aK,.slice iA dR.length iB,.string bg,.string eD,.bool bw] 32 (0,0)) wH hb);have bN:=ah.mk (ay NG hb);have cz:=ah.mk (cJ);have cY:=ah.mk ((BB:w.heap.size≤iY));have jv:=ah.mk ((BB:w.heap.size≤iY));have om:=ah.mk ((NT:gQ≠iY));have oZ:=ah.mk ((NU:iY≠gQ));clear fE;clear HB;have fE:=bD;have HB:=bN;have gH:=cz;have aaA:=cY;have Ua:=jv;have o7:=om;have o8:=oZ;clear bD bN cz cY jv om oZ;clear hb cJ hg)))
 (try simp only [Act.put,List.setIfInBounds_toArray,List.set_cons_zero,List.set_cons_succ])
 go_cut [26] (fun v26 wc=>∃ (kq:Nat) (Qb:Bool),v26= .bool Qb∧ah (bH.j0 kq Qb aK dR bg eD bw fX mW gq qo gu=some r)∧ah (kq≤k)∧ah (wc.heap[gQ]? =some (.cells #[.bool aK,(.slice iA dR.length iB),.string bg,.string eD,.bool bw] 32 (0,0)))∧ah (wc.heap[iY]? =some (.cells #[.bool fX,(.slice C4 mW.length C5),.string gq,.string qo,.bool gu] 32 (0,0)))∧ah (Below w.heap.size w wc))
 case first=>
  have H:=UX.out
  clear UX
  by_cases c6:(aK != fX)=true
  ·rw [if_pos c6] at H
   have pF:(aK != fX)=true:=c6
   (try (have zl:decide (aK=fX)=false:=by simpa using c6))
   (try (have abP:(aK == fX)=false:=by simpa using c6))
   (try (have aqR: ¬ (aK=fX):=by simpa using c6))
   clear c6
   (first|rw [pF]|(simp only [dB,dD];rw [pF])|skip)
   have H':=ah.mk H
   clear H
   have aqS:=o7.out
   have aqT:=o8.out
   have wU:w5.cell? ⟨gQ,0,none⟩=some (.bool aK):=(af fE.out 0).trans rfl
   have wV:w5.cell? ⟨gQ,1,none⟩=some (.slice iA dR.length iB):=(af fE.out 1).trans rfl
   have BO:w5.cell? ⟨gQ,2,none⟩=some (.string bg):=(af fE.out 2).trans rfl
   have E7:w5.cell? ⟨gQ,3,none⟩=some (.string eD):=(af fE.out 3).trans rfl
   have E8:w5.cell? ⟨gQ,4,none⟩=some (.bool bw):=(af fE.out 4).trans rfl
   have wW:=aa fE.out 0
   have wX:=aa fE.out 1
   have BP:=aa fE.out 2
   have E9:=aa fE.out 3
   have Fa:=aa fE.out 4
   have qp:w5.cell? ⟨iY,0,none⟩=some (.bool fX):=(af gH.out 0).trans rfl
   have qq:w5.cell? ⟨iY,1,none⟩=some (.slice C4 mW.length C5):=(af gH.out 1).trans rfl
   have wY:w5.cell? ⟨iY,2,none⟩=some (.string gq):=(af gH.out 2).trans rfl
   have zm:w5.cell? ⟨iY,3,none⟩=some (.string qo):=(af gH.out 3).trans rfl
   have zn:w5.cell? ⟨iY,4,none⟩=some (.bool gu):=(af gH.out 4).trans rfl
   have qu:=aa gH.out 0
   have qw:=aa gH.out 1
   have wZ:=aa gH.out 2
   have zo:=aa gH.out 3
   have zq:=aa gH.out 4
   go_wp2
   repeat (go_quiet (fail);try go_wp2)
   go_meet
   case rel=>exact ⟨_,(true),ey,H',⟨nU⟩,⟨wH⟩,⟨zI⟩,⟨wI⟩⟩
  ·rw [if_neg c6] at H
   have pF:(aK != fX)=false:=by simpa using c6
   (try (have zl:decide (aK=fX)=true:=by simpa using c6))
   (try (have abP:(aK == fX)=true:=by simpa using c6))
   clear c6
   (first|rw [pF]|(simp only [dB,dD];rw [pF])|skip)
   by_cases c10:(!(bg.toList == gq.toList) || (!(eD.toList == qo.toList) || (!(bw == gu))))=true
   ·rw [if_pos c10] at H
    have pO:(!(bg.toList == gq.toList) || (!(eD.toList == qo.toList) || (!(bw == gu))))=true:=c10
    clear c10
    have H':=ah.mk H
    clear H
    have aoD:=o7.out
    have aoE:=o8.out
    have uI:w5.cell? ⟨gQ,0,none⟩=some (.bool aK):=(af fE.out 0).trans rfl
    have uJ:w5.cell? ⟨gQ,1,none⟩=some (.slice iA dR.length iB):=(af fE.out 1).trans rfl
    have xQ:w5.cell? ⟨gQ,2,none⟩=some (.string bg):=(af fE.out 2).trans rfl
    have zZ:w5.cell? ⟨gQ,3,none⟩=some (.string eD):=(af fE.out 3).trans rfl
    have z6:w5.cell? ⟨gQ,4,none⟩=some (.bool bw):=(af fE.out 4).trans rfl
    have uK:=aa fE.out 0
    have uL:=aa fE.out 1
    have xR:=aa fE.out 2
    have z7:=aa fE.out 3
    have z8:=aa fE.out 4
    have qC:w5.cell? ⟨iY,0,none⟩=some (.bool fX):=(af gH.out 0).trans rfl
    have qD:w5.cell? ⟨iY,1,none⟩=some (.slice C4 mW.length C5):=(af gH.out 1).trans rfl
    have uM:w5.cell? ⟨iY,2,none⟩=some (.string gq):=(af gH.out 2).trans rfl
    have DD:w5.cell? ⟨iY,3,none⟩=some (.string qo):=(af gH.out 3).trans rfl
    have DF:w5.cell? ⟨iY,4,none⟩=some (.bool gu):=(af gH.out 4).trans rfl
    have qE:=aa gH.out 0
    have qF:=aa gH.out 1
    have uN:=aa gH.out 2
    have DG:=aa gH.out 3
    have DI:=aa gH.out 4
    go_wp2
    repeat (go_quiet (fail);try go_wp2)
    go_meet
    case rel=>exact ⟨_,(true),ey,H',⟨nU⟩,⟨wH⟩,⟨zI⟩,⟨wI⟩⟩
   ·rw [if_neg c10] at H
    have pO:(!(bg.toList == gq.toList) || (!(eD.toList == qo.toList) || (!(bw == gu))))=false:=by simpa using c10
    clear c10
    have H':=ah.mk H
    clear H
    have ad7:=o7.out
    have ad8:=o8.out
    have uO:w5.cell? ⟨gQ,0,none⟩=some (.bool aK):=(af fE.out 0).trans rfl
    have uP:w5.cell? ⟨gQ,1,none⟩=some (.slice iA dR.length iB):=(af fE.out 1).trans rfl
    have uQ:w5.cell? ⟨gQ,2,none⟩=some (.string bg):=(af fE.out 2).trans rfl
    have uR:w5.cell? ⟨gQ,3,none⟩=some (.string eD):=(af fE.out 3).trans rfl
    have uS:w5.cell? ⟨gQ,4,none⟩=some (.bool bw):=(af fE.out 4).trans rfl
    have uT:=aa fE.out 0
    have uU:=aa fE.out 1
    have uV:=aa fE.out 2
    have uW:=aa fE.out 3
    have uX:=aa fE.out 4
    have ni:w5.cell? ⟨iY,0,none⟩=some (.bool fX):=(af gH.out 0).trans rfl
    have nj:w5.cell? ⟨iY,1,none⟩=some (.slice C4 mW.length C5):=(af gH.out 1).trans rfl
    have pP:w5.cell? ⟨iY,2,none⟩=some (.string gq):=(af gH.out 2).trans rfl
    have rI:w5.cell? ⟨iY,3,none⟩=some (.string qo):=(af gH.out 3).trans rfl
    have rJ:w5.cell? ⟨iY,4,none⟩=some (.bool gu):=(af gH.out 4).trans rfl
    have nk:=aa gH.out 0
    have nr:=aa gH.out 1
    have pQ:=aa gH.out 2
    have rK:=aa gH.out 3
    have rL:=aa gH.out 4
    go_wp2
    repeat (go_quiet (fail);try go_wp2)
    go_meet
    case rel=>exact ⟨_,(((dR.length:Int) != (mW.length:Int))),ey,H',⟨nU⟩,⟨wH⟩,⟨zI⟩,⟨wI⟩⟩
 case rest=>
  clear UX
  try clear c1
  try clear p2
  try clear c6
  try clear pF
  try clear zl
  try clear abP
  try clear c7
  try clear c10
  try clear pO
  try clear c11
  try clear c14
  try clear uI
  try clear uJ
  try clear xQ
  try clear zZ
  try clear z6
  try clear qC
  try clear qD
  try clear uM
  try clear DD
  try clear DF
  try clear uO
  try clear uP
  try clear uQ
  try clear uR
  try clear uS
  try clear ni
  try clear nj
  try clear pP
  try clear rI
  try clear rJ
  try clear wU
  try clear wV
  try clear BO
  try clear E7
  try clear E8
  try clear qp
  try clear qq
  try clear wY
  try clear zm
  try clear zn
  try clear uK
  try clear uL
  try clear xR
  try clear z7
  try clear z8
  try clear qE
  try clear qF
  try clear uN
  try clear DG
  try clear DI
  try clear uT
  try clear uU
  try clear uV
  try clear uW
  try clear uX
  try clear nk
  try clear nr
  try clear pQ
  try clear rK
  try clear rL
  try clear wW
  try clear wX
  try clear BP
  try clear E9
  try clear Fa
  try clear qu
  try clear qw
  try clear wZ
  try clear zo
  try clear zq
  obtain ⟨kq,Qb,rfl,HA,HJ2,fE,gH,HB⟩:=hcut
  cases kq with
  |zero=>exact absurd HA.out (by simp [bH.j0])
  |succ C6=>
   have H:=HA.out
   clear HA
   simp only [bH.j0] at H
   by_cases c17:Qb=true
   ·subst c17
    have H1:(some false)=some r:=by rw [if_pos rfl] at H;exact H
    clear H
    have H:=H1
    clear H1
    obtain rfl:=Option.some.inj H
    go_wp2
    repeat (go_quiet (fail);try go_wp2)
    go_ret
    exact ⟨cZ,wI⟩
   ·replace c17:=Bool.eq_false_iff.mpr c17
    subst c17
    have H1:(bH.l0 C6 (dR.length:Int) 0 aK dR bg eD bw fX mW gq qo gu)=some r:=by rw [if_neg (show ¬ (false=true) by decide)] at H;exact H
    clear H
    have H:=H1
    clear H1
    have H':=ah.mk H
    clear H
    have aoF:=o7.out
    have aoG:=o8.out
    have Qc:wc.cell? ⟨gQ,0,none⟩=some (.bool aK):=(af fE.out 0).trans rfl
    have Qd:wc.cell? ⟨gQ,1,none⟩=some (.slice iA dR.length iB):=(af fE.out 1).trans rfl
    have Qe:wc.cell? ⟨gQ,2,none⟩=some (.string bg):=(af fE.out 2).trans rfl
    have Qf:wc.cell? ⟨gQ,3,none⟩=some (.string eD):=(af fE.out 3).trans rfl
    have Qg:wc.cell? ⟨gQ,4,none⟩=some (.bool bw):=(af fE.out 4).trans rfl
    have Qh:=aa fE.out 0
    have Qi:=aa fE.out 1
    have Qj:=aa fE.out 2
    have Qk:=aa fE.out 3
    have Ql:=aa fE.out 4
    go_wp2
    repeat (go_quiet (fail);try go_wp2)
    go_loopg [30] C6 (fun kq v30 w'=>∃ (ko:Int),v30= .int .i64 ko∧ah (bH.l0 kq (dR.length:Int) ko aK dR bg eD bw fX mW gq qo gu=some r)∧ah (kq≤C6)∧ah (w'.heap[gQ]? =some (.cells #[.bool aK,(.slice iA dR.length iB),.string bg,.string eD,.bool bw] 32 (0,0)))∧ah (w'.heap[iY]? =some (.cells #[.bool fX,(.slice C4 mW.length C5),.string gq,.string qo,.bool gu] 32 (0,0)))∧ah (Below w.heap.size w w'))
    case atStart=>exact ⟨(0),ey,H',⟨Nat.le_refl _⟩,⟨wH⟩,⟨zI⟩,⟨wI⟩⟩
    case round=>
     clear H'
     try clear c1
     try clear p2
     try clear c6
     try clear pF
     try clear zl
     try clear abP
     try clear c7
     try clear c10
     try clear pO
     try clear c11
     try clear c14
     try clear c17
     try clear c18
     try clear uI
     try clear uJ
     try clear xQ
     try clear zZ
     try clear z6
     try clear qC
     try clear qD
     try clear uM
     try clear DD
     try clear DF
     try clear uO
     try clear uP
     try clear uQ
     try clear uR
     try clear uS
     try clear ni
     try clear nj
     try clear pP
     try clear rI
     try clear rJ
     try clear Qc
     try clear Qd
     try clear Qe
     try clear Qf
     try clear Qg
     try clear wU
     try clear wV
     try clear BO
     try clear E7
     try clear E8
     try clear qp
     try clear qq
     try clear wY
     try clear zm
     try clear zn
     try clear uK
     try clear uL
     try clear xR
     try clear z7
     try clear z8
     try clear qE
     try clear qF
     try clear uN
     try clear DG
     try clear DI
     try clear uT
     try clear uU
     try clear uV
     try clear uW
     try clear uX
     try clear nk
     try clear nr
     try clear pQ
     try clear rK
     try clear rL
     try clear Qh
     try clear Qi
     try clear Qj
     try clear Qk
     try clear Ql
     try clear wW
     try clear wX
     try clear BP
     try clear E9
     try clear Fa
     try clear qu
     try clear qw
     try clear wZ
     try clear zo
     try clear zq
     try clear p2
     obtain ⟨ko,rfl,HA,Ob,fE,gH,HB⟩:=hrel
     cases gk with
     |zero=>exact absurd HA.out (by simp [bH.l0])
     |succ k2=>
      have H:=HA.out
      clear HA
      simp only [bH.l0] at H
      by_cases c20:ko < (dR.length:Int)
      ·rw [if_pos c20] at H
       have GV:decide (ko < (dR.length:Int))=true:=decide_eq_true c20
       clear c20
       by_cases c21: 0≤ko
       ·rw [if_pos c21] at H
        have Qm:decide (0≤ko)=true:=decide_eq_true c21
        clear c21
        by_cases Gq:ko < (dR.length:Int)
        ·rw [if_pos Gq] at H
         have Qn:decide (ko < (dR.length:Int))=true:=decide_eq_true Gq
         clear Gq
         by_cases UY:ko < (mW.length:Int)
         ·rw [if_pos UY] at H
          have aoH:decide (ko < (mW.length:Int))=true:=decide_eq_true UY
          clear UY
          by_cases c24:(kC ByteArray.empty dR ko).toList=(kC ByteArray.empty mW ko).toList
          ·rw [if_pos c24] at H
           have LJ:((kC ByteArray.empty dR ko).toList == (kC ByteArray.empty mW ko).toList)=true:=beq_iff_eq.mpr c24
           have aaB:((kC ByteArray.empty dR ko).toList != (kC ByteArray.empty mW ko).toList)=false:=bne_eq_false_iff_eq.mpr c24
           clear c24
           have H':=ah.mk H
           clear H
           have aoI:=o7.out
           have aoJ:=o8.out
           have DJ:wr.cell? ⟨gQ,0,none⟩=some (.bool aK):=(af fE.out 0).trans rfl
           have DK:wr.cell? ⟨gQ,1,none⟩=some (.slice iA dR.length iB):=(af fE.out 1).trans rfl
           have DL:wr.cell? ⟨gQ,2,none⟩=some (.string bg):=(af fE.out 2).trans rfl
           have Qo:wr.cell? ⟨gQ,3,none⟩=some (.string eD):=(af fE.out 3).trans rfl
           have Qp:wr.cell? ⟨gQ,4,none⟩=some (.bool bw):=(af fE.out 4).trans rfl
           have DM:=aa fE.out 0
           have DN:=aa fE.out 1
           have DR:=aa fE.out 2
           have Qq:=aa fE.out 3
           have Qr:=aa fE.out 4
           have Oj: 0≤(ko:Int):=of_decide_eq_true cX
           have Ol:ko < (dR.length:Int):=of_decide_eq_true cX
           obtain ⟨ad9,abQ,uY⟩:=Kd.ju wT.out ko Oj Ol
           cases abQ
           replace uY:=(HB.out.cell (World.block_lt_of_cell? w _ uY)).trans uY
           replace Oj:=eq_true Oj
           replace Ol:=eq_true Ol
           have Qs:wr.cell? ⟨iY,0,none⟩=some (.bool fX):=(af gH.out 0).trans rfl
           have Qt:wr.cell? ⟨iY,1,none⟩=some (.slice C4 mW.length C5):=(af gH.out 1).trans rfl
           have Xm:wr.cell? ⟨iY,2,none⟩=some (.string gq):=(af gH.out 2).trans rfl
           have Xn:wr.cell? ⟨iY,3,none⟩=some (.string qo):=(af gH.out 3).trans rfl
           have Xo:wr.cell? ⟨iY,4,none⟩=some (.bool gu):=(af gH.out 4).trans rfl
           have Qu:=aa gH.out 0
           have Qv:=aa gH.out 1
           have Xp:=aa gH.out 2
           have Xq:=aa gH.out 3
           have Xr:=aa gH.out 4
           have Om: 0≤(ko:Int):=of_decide_eq_true cX
           have Oo:ko < (mW.length:Int):=of_decide_eq_true cX
           obtain ⟨aea,abR,uZ⟩:=Kd.ju aay.out ko Om Oo
           cases abR
           replace uZ:=(HB.out.cell (World.block_lt_of_cell? w _ uZ)).trans uZ
           replace Om:=eq_true Om
           replace Oo:=eq_true Oo
           go_wp2
           repeat (go_quiet (fail);try go_wp2)
           go_roundg k2
           case measure=>have:=HJ2.out;have:=Ob.out;omega
           case rel=>exact ⟨(wrap64 (ko + 1)),ey,H',⟨by have:=HJ2.out;have:=Ob.out;omega⟩,⟨wH⟩,⟨zI⟩,⟨wI⟩⟩
          ·rw [if_neg c24] at H
           have LJ:((kC ByteArray.empty dR ko).toList == (kC ByteArray.empty mW ko).toList)=false:=beq_eq_false_iff_ne.mpr c24
           have aaB:((kC ByteArray.empty dR ko).toList != (kC ByteArray.empty mW ko).toList)=true:=bne_iff_ne.mpr c24
           obtain rfl:=Option.some.inj H
           have aoK:=o7.out
           have aoL:=o8.out
           have DT:wr.cell? ⟨gQ,0,none⟩=some (.bool aK):=(af fE.out 0).trans rfl
           have DU:wr.cell? ⟨gQ,1,none⟩=some (.slice iA dR.length iB):=(af fE.out 1).trans rfl
           have I0:wr.cell? ⟨gQ,2,none⟩=some (.string bg):=(af fE.out 2).trans rfl
           have ahk:wr.cell? ⟨gQ,3,none⟩=some (.string eD):=(af fE.out 3).trans rfl
           have ahl:wr.cell? ⟨gQ,4,none⟩=some (.bool bw):=(af fE.out 4).trans rfl
           have DV:=aa fE.out 0
           have DW:=aa fE.out 1
           have I1:=aa fE.out 2
           have ahm:=aa fE.out 3
           have ahn:=aa fE.out 4
           have Oj: 0≤(ko:Int):=of_decide_eq_true cX
           have Ol:ko < (dR.length:Int):=of_decide_eq_true cX
           obtain ⟨ad9,abQ,uY⟩:=Kd.ju wT.out ko Oj Ol
           cases abQ
           replace uY:=(HB.out.cell (World.block_lt_of_cell? w _ uY)).trans uY
           replace Oj:=eq_true Oj
           replace Ol:=eq_true Ol
           have Qw:wr.cell? ⟨iY,0,none⟩=some (.bool fX):=(af gH.out 0).trans rfl
           have Qx:wr.cell? ⟨iY,1,none⟩=some (.slice C4 mW.length C5):=(af gH.out 1).trans rfl
           have Qy:wr.cell? ⟨iY,2,none⟩=some (.string gq):=(af gH.out 2).trans rfl
           have aho:wr.cell? ⟨iY,3,none⟩=some (.string qo):=(af gH.out 3).trans rfl
           have ahp:wr.cell? ⟨iY,4,none⟩=some (.bool gu):=(af gH.out 4).trans rfl
           have Qz:=aa gH.out 0
           have QA:=aa gH.out 1
           have QB:=aa gH.out 2
           have ahq:=aa gH.out 3
           have ahr:=aa gH.out 4
           have Om: 0≤(ko:Int):=of_decide_eq_true cX
           have Oo:ko < (mW.length:Int):=of_decide_eq_true cX
           obtain ⟨aea,abR,uZ⟩:=Kd.ju aay.out ko Om Oo
           cases abR
           replace uZ:=(HB.out.cell (World.block_lt_of_cell? w _ uZ)).trans uZ
           replace Om:=eq_true Om
           replace Oo:=eq_true Oo
           go_wp2
           repeat (go_quiet (fail);try go_wp2)
           go_ret
           exact ⟨cZ,wI⟩
         ·rw [if_neg UY] at H
          exact absurd H bn
        ·rw [if_neg Gq] at H
         exact absurd H bn
       ·rw [if_neg c21] at H
        exact absurd H bn
      ·rw [if_neg c20] at H
       have GV:decide (ko < (dR.length:Int))=false:=decide_eq_false c20
       clear c20
       obtain rfl:=Option.some.inj H
       go_wp2
       repeat (go_quiet (fail);try go_wp2)
       go_ret
       exact ⟨cZ,wI⟩
end Go.Proofs.YtokpnfljjjjikaaGreatDoor.nX
