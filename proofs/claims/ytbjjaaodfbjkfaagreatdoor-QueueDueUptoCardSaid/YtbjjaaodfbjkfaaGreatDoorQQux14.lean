import Derived.Test.YtbjjaaodfbjkfaaGreatDoorESlim
import Derived.Test.YtbjjaaodfbjkfaaGreatDoorESettled
set_option maxHeartbeats 8000000
set_option maxRecDepth 100000
namespace Go.Proofs.YtbjjaaodfbjkfaaGreatDoor.ow
open Go.RowKit Go.Proofs.YtbjjaaodfbjkfaaGreatDoor.zi Go.Proofs.ak.bY Go.Proofs.ak.dU Go.Proofs.ak.dJ
attribute [local go_sem] jt ju kH kI iw iy jv jw
set_option linter.unusedVariables false
set_option linter.unusedSimpArgs false
def iT.f:Option (Int×(List (pO))):=some (1,([]:List (pO)))
theorem iT.calls (r1:Int) (r2:List (pO)) (w:World) (h:iT.f=some (r1,r2)):
 Calls Tryz.prog 16 #[] w fun e w'=>∃ WX:Value,e= .returned (.agg #[.int .i64 r1,WX])∧Kd.S Bz 34 w' w.heap.size (fun _ =>True) WX r2∧Below w.heap.size w w':=by
 have UT:=Tryz.underlying40
 have HB:=ah.mk (Below.refl w.heap.size w)
 have H:(some (1,([]:List (pO))))=some (r1,r2):=h
 clear h
 simp only [Option.some.injEq,Prod.mk.injEq] at H
 obtain ⟨rfl,rfl⟩:=H
 go_enter Tryz.func16,Tryz.ntmps16
 go_wp2_with (((with_reducible refine bw (N:=0) rfl ?_);refine bA ?hg (N:=0) ?hd (cs:=#[.int .i64 0,.slice none 0 0]) (t:=40) ?hr ?_;(case hd=>rfl);(case hg=>rfl);(case hr=>(go_simp;done));intro LU hg w1 bH hb;have LV:=ah.mk (bH);have aFD:=ah.mk ((bG:w.heap.size≤LU));have aiX:=ah.mk ((bG:w.heap.size≤LU));replace HB:=ah.mk (av aI hb);clear hb bH hg;have aCn:w1.cell? ⟨LU,0,none⟩=some (.int .i64 0):=(af LV.out 0).trans rfl;have aCo:w1.cell? ⟨LU,1,none⟩=some (.slice none 0 0):=(af LV.out 1).trans rfl;have aCp:=aa LV.out 0;have aCq:=aa LV.out 1))
 refine bodyPost_ret (results_cell_row rfl _ _ LU 40 #[.int .i64 1,.slice none 0 0] (0,0) _ rfl (by refine aW (cs:=#[.int .i64 1,.slice none 0 0]) ?_ 1 _ rfl;refine aW (cs:=#[.int .i64 0,.slice none 0 0]) ?_ 0 _ rfl;exact LV.out) Tryz.underlying40 rfl au) rfl ?_
 exact ⟨_,by rfl,by exact Kd.aeE _ _ _ _ _,by repeat ((with_reducible first|exact HB.out|refine cC ?_ aiX.out))⟩
def cM.l0:Nat→List Int→List (pO)→Int→Int→Option (List Int)
 | 0,_,_,_,_ =>none
 |k + 1,x3,x9,uK,sw=>if sw < uK then (if 0≤sw then (if sw < (x9.length:Int) then ((kM.f ((aj x9 sw).f0) ((aj x9 sw).f1.f0) ((aj x9 sw).f1.f1) ((aj x9 sw).f1.f2.f0) ((aj x9 sw).f1.f2.f1) ((aj x9 sw).f1.f2.f2) ((aj x9 sw).f2) ((aj x9 sw).f3) ((aj x9 sw).f4)).bind fun aiY=>(if aiY.1=true then (if x3.length < 17592186044416 then (cM.l0 k (x3 ++ [(aj x9 sw).f0]) x9 uK (wrap64 (sw + 1))) else (none)) else (cM.l0 k x3 x9 uK (wrap64 (sw + 1))))) else (none)) else (none)) else (some x3)
def cM.f (k:Nat) (bu:Int) (aT:List (pO)):Option (List Int):=cM.l0 k ([]:List Int) aT (aT.length:Int) 0
theorem cM.eY:∀ k,(∀ y0 y1 y2 y3,fP (cM.l0 k y0 y1 y2 y3) (cM.l0 (k + 1) y0 y1 y2 y3))
 | 0=>fun _ _ _ _ r h=>by simp [cM.l0] at h
 |k + 1=>by
  have nY:=cM.eY k
  ·intro y0 y1 y2 y3
   unfold cM.l0
   repeat' (with_reducible first|exact nY _ _ _ _|exact fP.refl _|refine fP.ite ?_ ?_|refine fP.bind ?_ (fun _ =>?_))
theorem cM.mono:∀ a0 a1 k,fP (cM.f k a0 a1) (cM.f (k + 1) a0 a1):=by
 intro a0 a1 k
 have nY:=cM.eY k
 unfold cM.f
 repeat' (with_reducible exact nY _ _ _ _)
theorem cM.calls (k:Nat) (bu:Int) (kj:Option Addr) (jA:Nat) (aT:List (pO)) (r:List Int) (w:World) (qU:Kd.C Bz w kj aT.length aT) (qV:aT.length≤jA) (h:cM.f k bu aT=some r):
 Calls Tryz.prog 19 #[.agg #[.int .i64 bu,.slice kj aT.length jA]] w fun e w'=>∃ ER:Value,e= .returned (ER)∧Kd.R (Kd.int .i64) 3 w' w.heap.size (fun _ =>True) ER r∧Below w.heap.size w w':=by
 have UT:=Tryz.underlying40
 have CM:=Tryz.underlying34
 have yJ:=ah.mk qU
 have GL:=ah.mk qV
 clear qU qV
 have HB:=ah.mk (Below.refl w.heap.size w)
 have H:(cM.l0 k ([]:List Int) aT (aT.length:Int) 0)=some r:=h
 clear h
 have H':=ah.mk H
 clear H
 go_enter Tryz.func19,Tryz.ntmps19
 go_wp2_with (((with_reducible refine bw (N:=1) rfl ?_);refine bA ?hg (N:=1) ?hd (cs:=#[.int .i64 bu,.slice kj aT.length jA]) (t:=40) ?hr ?_;(case hd=>rfl);(case hg=>rfl);(case hr=>(go_simp;done));intro wN hg w2 bH hb;have ur:=ah.mk (bH);have aFE:=ah.mk ((bG:w.heap.size≤wN));have aFF:=ah.mk ((bG:w.heap.size≤wN));replace HB:=ah.mk (av aI hb);clear hb bH hg;have WY:w2.cell? ⟨wN,0,none⟩=some (.int .i64 bu):=(af ur.out 0).trans rfl;have WZ:w2.cell? ⟨wN,1,none⟩=some (.slice kj aT.length jA):=(af ur.out 1).trans rfl;have W4:=aa ur.out 0;have W5:=aa ur.out 1))
 go_loopg [3,11] k (fun kq v3 v11 w'=>∃ (UU:List Int) (cD:Int),v11= .int .i64 cD∧ah (cM.l0 kq UU aT (aT.length:Int) cD=some r)∧ah (kq≤k)∧ah (Kd.R (Kd.int .i64) 3 w' w.heap.size (fun _ =>True) v3 UU)∧ah (w'.heap[wN]? =some (.cells #[.int .i64 bu,(.slice kj aT.length jA)] 40 (0,0)))∧ah (Below w.heap.size w w'))
 case atStart=>exact ⟨(([]:List Int)),(0),(by rfl),H',⟨Nat.le_refl _⟩,⟨qH⟩,⟨qI⟩,⟨aI⟩⟩
 case round=>
  clear H'
  obtain ⟨UU,cD,rfl,HA,oI,Bo,ur,HB⟩:=hrel
  cases gk with
  |zero=>exact absurd HA.out (by simp [cM.l0])
  |succ k1=>
   have H:=HA.out
   clear HA
   simp only [cM.l0] at H
   by_cases c4:cD < (aT.length:Int)
   ·rw [if_pos c4] at H
    have ng:=decide_eq_true c4
    clear c4
    obtain ⟨c5,H⟩:=lg H
    have qu:=decide_eq_true c5
    clear c5
    obtain ⟨c6,H⟩:=lg H
    have xm:=decide_eq_true c6
    clear c6
    obtain ⟨⟨t258,t259⟩,A7,H⟩:=bd_ H
    (try dsimp only at H)
    by_cases c8:t258=true
    ·subst c8
     rw [if_pos rfl] at H
     obtain ⟨c9,H⟩:=lg H
     have aCr:=ah.mk c9
     clear c9
     obtain ⟨aiZ,W6⟩:∃ y_:List Int,y_=(UU ++ [(aj aT cD).f0]):=⟨_,rfl⟩
     replace H:(cM.l0 k1 aiZ aT (aT.length:Int) (wrap64 (cD + 1)))=some r:=by (rw [W6];with_reducible exact H)
     have ai0:=ah.mk W6
     clear W6
     have H':=ah.mk H
     clear H
     have NY: 0≤(cD:Int):=of_decide_eq_true cL
     have NZ:cD < (aT.length:Int):=of_decide_eq_true cL
     obtain ⟨Qh,pT,pU,tP,tQ,uN,uO,afW,vr,vv,vw,vA,vB,vC,vD,vE,vF,zW,zX,zY,zZ,z1,z6⟩:=tX yJ.out cD NY NZ
     cases afW
     replace vr:=(HB.out.cell (World.block_lt_of_cell? w _ vr)).trans vr
     replace vv:=(HB.out.cell (World.block_lt_of_cell? w _ vv)).trans vv
     replace vw:=(HB.out.cell (World.block_lt_of_cell? w _ vw)).trans vw
     replace vA:=(HB.out.cell (World.block_lt_of_cell? w _ vA)).trans vA
     replace vB:=(HB.out.cell (World.block_lt_of_cell? w _ vB)).trans vB
     replace vC:=(HB.out.cell (World.block_lt_of_cell? w _ vC)).trans vC
     replace vD:=(HB.out.cell (World.block_lt_of_cell? w _ vD)).trans vD
     replace vE:=(HB.out.cell (World.block_lt_of_cell? w _ vE)).trans vE
     replace vF:=(HB.out.cell (World.block_lt_of_cell? w _ vF)).trans vF
     have IB:=ah.mk zX
     have IC:=ah.mk zW
     clear zX zW
     have ID:=ah.mk zZ
     have IE:=ah.mk zY
     clear zZ zY
     have IG:=ah.mk z6
     have II:=ah.mk z1
     clear z6 z1
     replace NY:=eq_true NY
     replace NZ:=eq_true NZ
     go_wp2_with (first|((with_reducible refine bw (N:=5) rfl ?_);refine bA ?hg (N:=5) ?hd (cs:=#[.int .i64 0,.bool false,.slice none 0 0,.string (⟨#[]⟩:ByteArray),.string (⟨#[]⟩:ByteArray),.bool false,.slice none 0 0,.slice none 0 0,.int .i64 0]) (t:=34) ?hr ?_;(case hd=>rfl);(case hg=>rfl);(case hr=>(go_simp;done));intro gU hg qw bH hb;replace Bo:=ah.mk (Kd.bq (by exact Bo.out) hb);have gf:=ah.mk (bH);have ai1:=ah.mk ((bG:w.heap.size≤gU));have aex:=ah.mk ((bG:w.heap.size≤gU));replace HB:=ah.mk (av aI hb);have lD:=ah.mk ((by rw [hg];exact Nat.ne_of_lt (eD qI):wN≠gU));have BB:=ah.mk ((by rw [hg];exact Nat.ne_of_gt (eD qI):gU≠wN));replace ur:=ah.mk (az qI hb);clear hb bH hg;have aFG:=BB.out;have aFH:=lD.out;have ya:qw.cell? ⟨gU,0,none⟩=some (.int .i64 0):=(af gf.out 0).trans rfl;have yc:qw.cell? ⟨gU,1,none⟩=some (.bool false):=(af gf.out 1).trans rfl;have z7:qw.cell? ⟨gU,2,none⟩=some (.slice none 0 0):=(af gf.out 2).trans rfl;have Dl:qw.cell? ⟨gU,3,none⟩=some (.string (⟨#[]⟩:ByteArray)):=(af gf.out 3).trans rfl;have Dm:qw.cell? ⟨gU,4,none⟩=some (.string (⟨#[]⟩:ByteArray)):=(af gf.out 4).trans rfl;have Dn:qw.cell? ⟨gU,5,none⟩=some (.bool false):=(af gf.out 5).trans rfl;have Dp:qw.cell? ⟨gU,6,none⟩=some (.slice none 0 0):=(af gf.out 6).trans rfl;have Dq:qw.cell? ⟨gU,7,none⟩=some (.slice none 0 0):=(af gf.out 7).trans rfl;have Dr:qw.cell? ⟨gU,8,none⟩=some (.int .i64 0):=(af gf.out 8).trans rfl;have yf:=aa gf.out 0;have yg:=aa gf.out 1;have z8:=aa gf.out 2;have Ds:=aa gf.out 3;have Dt:=aa gf.out 4;have Du:=aa gf.out 5;have Dv:=aa gf.out 6;have Dw:=aa gf.out 7;have Dx:=aa gf.out 8)|((with_reducible refine bE (f:=61) rfl ?_);refine dg (some 17) rfl rfl Tryz.func61 au rfl #[.agg #[.int .i64 ((aj aT cD).f0),.bool ((aj aT cD).f1.f0),.slice pT ((aj aT cD).f1.f1).length pU,.string ((aj aT cD).f1.f2.f0),.string ((aj aT cD).f1.f2.f1),.bool ((aj aT cD).f1.f2.f2),.slice tP ((aj aT cD).f2).length tQ,.slice uN ((aj aT cD).f3).length uO,.int .i64 ((aj aT cD).f4)]] rfl dM ?_;(with_reducible refine (kM.calls ((aj aT cD).f0) ((aj aT cD).f1.f0) _ _ ((aj aT cD).f1.f1) ((aj aT cD).f1.f2.f0) ((aj aT cD).f1.f2.f1) ((aj aT cD).f1.f2.f2) _ _ ((aj aT cD).f2) _ _ ((aj aT cD).f3) ((aj aT cD).f4) true t259 _ ?bk ?bI ?cO ?ey ?gz ?gA A7.out).mono ?_);(case bk=>exact Kd.bU IB.out wY);(case bI=>exact IC.out);(case cO=>exact Kd.bU ID.out wY);(case ey=>exact IE.out);(case gz=>exact Kd.bU IG.out wY);(case gA=>exact II.out);rintro e ni ⟨rfl,hb⟩;refine ⟨_,rfl,?_⟩;replace Bo:=ah.mk (Kd.bq V5 hb);replace ur:=ah.mk (az (g:=wN) (o:= .cells #[.int .i64 bu,.slice (some Qh) aT.length jA] 40 (0,0)) Wc hb);replace gf:=ah.mk (az (g:=gU) (o:= .cells #[.int .i64 ((aj aT cD).f0),.bool ((aj aT cD).f1.f0),.slice pT ((aj aT cD).f1.f1).length pU,.string ((aj aT cD).f1.f2.f0),.string ((aj aT cD).f1.f2.f1),.bool ((aj aT cD).f1.f2.f2),.slice tP ((aj aT cD).f2).length tQ,.slice uN ((aj aT cD).f3).length uO,.int .i64 ((aj aT cD).f4)] 34 (0,0)) V2 hb);replace HB:=ah.mk (av wY hb);(try clear hb);have Aa:ni.cell? ⟨gU,0,none⟩=some (.int .i64 ((aj aT cD).f0)):=(af gf.out 0).trans rfl;have Ab:ni.cell? ⟨gU,1,none⟩=some (.bool ((aj aT cD).f1.f0)):=(af gf.out 1).trans rfl;have Dy:ni.cell? ⟨gU,2,none⟩=some (.slice pT ((aj aT cD).f1.f1).length pU):=(af gf.out 2).trans rfl;have Dz:ni.cell? ⟨gU,3,none⟩=some (.string ((aj aT cD).f1.f2.f0)):=(af gf.out 3).trans rfl;have DA:ni.cell? ⟨gU,4,none⟩=some (.string ((aj aT cD).f1.f2.f1)):=(af gf.out 4).trans rfl;have DB:ni.cell? ⟨gU,5,none⟩=some (.bool ((aj aT cD).f1.f2.f2)):=(af gf.out 5).trans rfl;have IJ:ni.cell? ⟨gU,6,none⟩=some (.slice tP ((aj aT cD).f2).length tQ):=(af gf.out 6).trans rfl;have IK:ni.cell? ⟨gU,7,none⟩=some (.slice uN ((aj aT cD).f3).length uO):=(af gf.out 7).trans rfl;have IL:ni.cell? ⟨gU,8,none⟩=some (.int .i64 ((aj aT cD).f4)):=(af gf.out 8).trans rfl;have Ac:=aa gf.out 0;have Ad:=aa gf.out 1;have DC:=aa gf.out 2;have DD:=aa gf.out 3;have DF:=aa gf.out 4;have DG:=aa gf.out 5;have IM:=aa gf.out 6;have IP:=aa gf.out 7;have IQ:=aa gf.out 8)|((with_reducible refine mZ (b:= .append) (xs:=#[.tmp 21,.tmp 24]) rfl ?_);at_builtin;refine Kd.su (Kd.int .i64) (w0:=w) w.heap.size rfl (.tmp 21) (.tmp 24) 25 3 (.int .i64 0) 8 rfl Tryz.underlying25 info3 rfl bC aA u3 UU ((aj aT cD).f0) [.int .i64 ((aj aT cD).f0)] (fun _ =>True) (fun _ =>False) rfl rfl ?aP (fun _ hk=>hk.elim) ?aF ?aO ?aB ?aS ?aL ?_;(case aP=>exact rfl);(case aB=>exact aI);(case aF=>exact (fun _ _ =>trivial));(case aO=>exact (by exact Bo.out));(case aS=>exact (bV aI));(case aL=>have:=aCr.out;omega);intro aJq wO ho hb hg hat;rw [← ai0.out] at ho;replace ur:=ah.mk (fU (g:=wN) (o:= .cells #[.int .i64 bu,.slice (some Qh) aT.length jA] 40 (0,0)) qI hg (Kd.vq Bo.out ur.out bC));replace gf:=ah.mk (fU (g:=gU) (o:= .cells #[.int .i64 ((aj aT cD).f0),.bool ((aj aT cD).f1.f0),.slice pT ((aj aT cD).f1.f1).length pU,.string ((aj aT cD).f1.f2.f0),.string ((aj aT cD).f1.f2.f1),.bool ((aj aT cD).f1.f2.f2),.slice tP ((aj aT cD).f2).length tQ,.slice uN ((aj aT cD).f3).length uO,.int .i64 ((aj aT cD).f4)] 34 (0,0)) (by exact gf.out) hg (Kd.vq Bo.out gf.out bC));replace HB:=ah.mk (hb);have ai2:=ah.mk (ho);clear Bo;clear ho hb hg hat))
     go_roundg k1
     case measure=>have:=oI.out;omega
     case rel=>exact ⟨(aiZ),(wrap64 (cD + 1)),(by rfl),H',⟨lS⟩,⟨by exact ai2.out⟩,⟨qI⟩,⟨aI⟩⟩
    ·replace c8:=Bool.eq_false_iff.mpr c8
     subst c8
     rw [if_neg (show ¬ (false=true) by decide)] at H
     have H':=ah.mk H
     clear H
     have NY: 0≤(cD:Int):=of_decide_eq_true cL
     have NZ:cD < (aT.length:Int):=of_decide_eq_true cL
     obtain ⟨Qh,pT,pU,tP,tQ,uN,uO,afW,vr,vv,vw,vA,vB,vC,vD,vE,vF,zW,zX,zY,zZ,z1,z6⟩:=tX yJ.out cD NY NZ
     cases afW
     replace vr:=(HB.out.cell (World.block_lt_of_cell? w _ vr)).trans vr
     replace vv:=(HB.out.cell (World.block_lt_of_cell? w _ vv)).trans vv
     replace vw:=(HB.out.cell (World.block_lt_of_cell? w _ vw)).trans vw
     replace vA:=(HB.out.cell (World.block_lt_of_cell? w _ vA)).trans vA
     replace vB:=(HB.out.cell (World.block_lt_of_cell? w _ vB)).trans vB
     replace vC:=(HB.out.cell (World.block_lt_of_cell? w _ vC)).trans vC
     replace vD:=(HB.out.cell (World.block_lt_of_cell? w _ vD)).trans vD
     replace vE:=(HB.out.cell (World.block_lt_of_cell? w _ vE)).trans vE
     replace vF:=(HB.out.cell (World.block_lt_of_cell? w _ vF)).trans vF
     have IB:=ah.mk zX
     have IC:=ah.mk zW
     clear zX zW
     have ID:=ah.mk zZ
     have IE:=ah.mk zY
     clear zZ zY
     have IG:=ah.mk z6
     have II:=ah.mk z1
     clear z6 z1
     replace NY:=eq_true NY
     replace NZ:=eq_true NZ
     go_wp2_with (first|((with_reducible refine bw (N:=5) rfl ?_);refine bA ?hg (N:=5) ?hd (cs:=#[.int .i64 0,.bool false,.slice none 0 0,.string (⟨#[]⟩:ByteArray),.string (⟨#[]⟩:ByteArray),.bool false,.slice none 0 0,.slice none 0 0,.int .i64 0]) (t:=34) ?hr ?_;(case hd=>rfl);(case hg=>rfl);(case hr=>(go_simp;done));intro gU hg uz bH hb;replace Bo:=ah.mk (Kd.bq (by exact Bo.out) hb);have gf:=ah.mk (bH);have ai1:=ah.mk ((bG:w.heap.size≤gU));have aex:=ah.mk ((bG:w.heap.size≤gU));replace HB:=ah.mk (av aI hb);have lD:=ah.mk ((by rw [hg];exact Nat.ne_of_lt (eD qI):wN≠gU));have BB:=ah.mk ((by rw [hg];exact Nat.ne_of_gt (eD qI):gU≠wN));replace ur:=ah.mk (az qI hb);clear hb bH hg;have aeI:=BB.out;have aeJ:=lD.out;have DI:uz.cell? ⟨gU,0,none⟩=some (.int .i64 0):=(af gf.out 0).trans rfl;have DJ:uz.cell? ⟨gU,1,none⟩=some (.bool false):=(af gf.out 1).trans rfl;have DK:uz.cell? ⟨gU,2,none⟩=some (.slice none 0 0):=(af gf.out 2).trans rfl;have DL:uz.cell? ⟨gU,3,none⟩=some (.string (⟨#[]⟩:ByteArray)):=(af gf.out 3).trans rfl;have DM:uz.cell? ⟨gU,4,none⟩=some (.string (⟨#[]⟩:ByteArray)):=(af gf.out 4).trans rfl;have IU:uz.cell? ⟨gU,5,none⟩=some (.bool false):=(af gf.out 5).trans rfl;have Qi:uz.cell? ⟨gU,6,none⟩=some (.slice none 0 0):=(af gf.out 6).trans rfl;have Qj:uz.cell? ⟨gU,7,none⟩=some (.slice none 0 0):=(af gf.out 7).trans rfl;have Qk:uz.cell? ⟨gU,8,none⟩=some (.int .i64 0):=(af gf.out 8).trans rfl;have DN:=aa gf.out 0;have DR:=aa gf.out 1;have DT:=aa gf.out 2;have DU:=aa gf.out 3;have DV:=aa gf.out 4;have IV:=aa gf.out 5;have Ql:=aa gf.out 6;have Qm:=aa gf.out 7;have Qn:=aa gf.out 8)|((with_reducible refine bE (f:=61) rfl ?_);refine dg (some 17) rfl rfl Tryz.func61 au rfl #[.agg #[.int .i64 ((aj aT cD).f0),.bool ((aj aT cD).f1.f0),.slice pT ((aj aT cD).f1.f1).length pU,.string ((aj aT cD).f1.f2.f0),.string ((aj aT cD).f1.f2.f1),.bool ((aj aT cD).f1.f2.f2),.slice tP ((aj aT cD).f2).length tQ,.slice uN ((aj aT cD).f3).length uO,.int .i64 ((aj aT cD).f4)]] rfl dM ?_;(with_reducible refine (kM.calls ((aj aT cD).f0) ((aj aT cD).f1.f0) _ _ ((aj aT cD).f1.f1) ((aj aT cD).f1.f2.f0) ((aj aT cD).f1.f2.f1) ((aj aT cD).f1.f2.f2) _ _ ((aj aT cD).f2) _ _ ((aj aT cD).f3) ((aj aT cD).f4) false t259 _ ?bk ?bI ?cO ?ey ?gz ?gA A7.out).mono ?_);(case bk=>exact Kd.bU IB.out wY);(case bI=>exact IC.out);(case cO=>exact Kd.bU ID.out wY);(case ey=>exact IE.out);(case gz=>exact Kd.bU IG.out wY);(case gA=>exact II.out);rintro e w19 ⟨rfl,hb⟩;refine ⟨_,rfl,?_⟩;replace Bo:=ah.mk (Kd.bq V5 hb);replace ur:=ah.mk (az (g:=wN) (o:= .cells #[.int .i64 bu,.slice (some Qh) aT.length jA] 40 (0,0)) Wc hb);replace gf:=ah.mk (az (g:=gU) (o:= .cells #[.int .i64 ((aj aT cD).f0),.bool ((aj aT cD).f1.f0),.slice pT ((aj aT cD).f1.f1).length pU,.string ((aj aT cD).f1.f2.f0),.string ((aj aT cD).f1.f2.f1),.bool ((aj aT cD).f1.f2.f2),.slice tP ((aj aT cD).f2).length tQ,.slice uN ((aj aT cD).f3).length uO,.int .i64 ((aj aT cD).f4)] 34 (0,0)) V2 hb);replace HB:=ah.mk (av wY hb);(try clear hb)))
     go_roundg k1
     case measure=>have:=oI.out;omega
     case rel=>exact ⟨(UU),(wrap64 (cD + 1)),(by rfl),H',⟨lS⟩,⟨by exact Bo.out⟩,⟨qI⟩,⟨aI⟩⟩
   ·rw [if_neg c4] at H
    have ng:=decide_eq_false c4
    clear c4
    obtain rfl:=Option.some.inj H
    go_wp2
    go_ret
    exact ⟨_,by rfl,by exact Bo.out,aI⟩
def cj.l0:Nat→List ByteArray→Int→Int→Int→Bool→ByteArray→ByteArray→Bool→List (jN)→Int→Option (Int×Bool×List ByteArray×ByteArray×ByteArray×Bool×(List (jN))×List Int×Int)
 | 0,_,_,_,_,_,_,_,_,_,_ =>none
 |k + 1,x19,VU,x21,Qo,Qp,Qq,Qr,Qs,IW,Qt=>if x21 < VU then (if 0≤x21 then (if x21 < (x19.length:Int) then (if IW.length < 2199023255552 then (cj.l0 k x19 VU (wrap64 (x21 + 1)) Qo Qp Qq Qr Qs (IW ++ [(⟨(⟨oQ ByteArray.empty x19 x21,(⟨#[99]⟩:ByteArray),false⟩:GI),0,0,0⟩:jN)]) Qt) else (none)) else (none)) else (none)) else (some (Qo,Qp,([]:List ByteArray),Qq,Qr,Qs,IW,([]:List Int),Qt))
def cj.f (k:Nat) (a0:Int) (a1:ByteArray) (l2:List ByteArray):Option (Int×Bool×List ByteArray×ByteArray×ByteArray×Bool×(List (jN))×List Int×Int):=if a1.toList=([]:List UInt8) then (cj.l0 k l2 (l2.length:Int) 0 a0 true (⟨#[]⟩:ByteArray) (⟨#[]⟩:ByteArray) false ([]:List (jN)) 0) else (cj.l0 k l2 (l2.length:Int) 0 a0 false a1 (⟨#[98]⟩:ByteArray) false ([]:List (jN)) 0)
theorem cj.eY:∀ k,(∀ y0 y1 y2 y3 y4 y5 y6 y7 y8 y9,fP (cj.l0 k y0 y1 y2 y3 y4 y5 y6 y7 y8 y9) (cj.l0 (k + 1) y0 y1 y2 y3 y4 y5 y6 y7 y8 y9))
 | 0=>fun _ _ _ _ _ _ _ _ _ _ r h=>by simp [cj.l0] at h
 |k + 1=>by
  have nY:=cj.eY k
  ·intro y0 y1 y2 y3 y4 y5 y6 y7 y8 y9
   unfold cj.l0
   repeat' (with_reducible first|exact nY _ _ _ _ _ _ _ _ _ _|exact fP.refl _|refine fP.ite ?_ ?_)
theorem cj.mono:∀ a0 a1 a2 k,fP (cj.f k a0 a1 a2) (cj.f (k + 1) a0 a1 a2):=by
 intro a0 a1 a2 k
 have nY:=cj.eY k
 unfold cj.f
 repeat' (with_reducible first|exact nY _ _ _ _ _ _ _ _ _ _|refine fP.ite ?_ ?_)
theorem cj.calls (k:Nat) (a0:Int) (a1:ByteArray) (A2:Option Addr) (c2:Nat) (l2:List ByteArray) (r1:Int) (r2:Bool) (r3:List ByteArray) (r4:ByteArray) (r5:ByteArray) (r6:Bool) (r7:List (jN)) (r8:List Int) (r9:Int) (w:World) (hr2:Kd.C Kd.string w A2 l2.length l2) (hc2:l2.length≤c2) (h:cj.f k a0 a1 l2=some (r1,r2,r3,r4,r5,r6,r7,r8,r9)):
 Calls Tryz.prog 14 #[.int .i64 a0,.string a1,.slice A2 l2.length c2] w fun e w'=>∃ v2_ UW v7_:Value,e= .returned (.agg #[.int .i64 r1,.bool r2,v2_,.string r4,.string r5,.bool r6,UW,v7_,.int .i64 r9])∧Kd.R Kd.string 9 w' w.heap.size (fun _ =>True) v2_ r3∧Kd.R sN 37 w' w.heap.size (fun _ =>True) UW r7∧Kd.R (Kd.int .u8) 5 w' w.heap.size (fun _ =>True) v7_ r8∧Below w.heap.size w w':=by
 have CM:=Tryz.underlying34
 have LW:=Tryz.underlying29
 have Zn:=Tryz.underlying31
 have LX:=Tryz.underlying37
 have HR2:=ah.mk hr2
 have HC2:=ah.mk hc2
 clear hr2 hc2
 have HB:=ah.mk (Below.refl w.heap.size w)
 have H:(if a1.toList=([]:List UInt8) then (cj.l0 k l2 (l2.length:Int) 0 a0 true (⟨#[]⟩:ByteArray) (⟨#[]⟩:ByteArray) false ([]:List (jN)) 0) else (cj.l0 k l2 (l2.length:Int) 0 a0 false a1 (⟨#[98]⟩:ByteArray) false ([]:List (jN)) 0))=some (r1,r2,r3,r4,r5,r6,r7,r8,r9):=h
 clear h
 by_cases c4:a1.toList=([]:List UInt8)
 ·rw [if_pos c4] at H
  have ng:=beq_iff_eq.mpr c4
  have BC:=bne_eq_false_iff_eq.mpr c4
  clear c4
  have H':=ah.mk H
  clear H
  go_enter Tryz.func14,Tryz.ntmps14
  go_wp2_with (first|((with_reducible refine bw (N:=6) rfl ?_);refine bA ?hg (N:=6) ?hd (cs:=#[.int .i64 0,.bool false,.slice none 0 0,.string (⟨#[]⟩:ByteArray),.string (⟨#[]⟩:ByteArray),.bool false,.slice none 0 0,.slice none 0 0,.int .i64 0]) (t:=34) ?hr ?_;(case hd=>rfl);(case hg=>rfl);(case hr=>(go_simp;done));intro gN hg w5 bH hb;have gH:=ah.mk (bH);have ai5:=ah.mk ((bG:w.heap.size≤gN));have aez:=ah.mk ((bG:w.heap.size≤gN));replace HB:=ah.mk (av aI hb);clear hb bH hg)|((with_reducible refine bw (N:=7) rfl ?_);refine bA ?hg (N:=7) ?hd (cs:=#[.int .i64 0,.bool false,.slice none 0 0,.string (⟨#[]⟩:ByteArray),.string (⟨#[]⟩:ByteArray),.bool false,.slice none 0 0,.slice none 0 0,.int .i64 0]) (t:=34) ?hr ?_;(case hd=>rfl);(case hg=>rfl);(case hr=>(go_simp;done));intro dZ hg w6 bH hb;have cw:=ah.mk (bH);have ai6:=ah.mk ((bG:w.heap.size≤dZ));have aey:=ah.mk ((bG:w.heap.size≤dZ));replace HB:=ah.mk (av aI hb);have eU:=ah.mk ((by rw [hg];exact Nat.ne_of_lt (eD sW):gN≠dZ));have qC:=ah.mk ((by rw [hg];exact Nat.ne_of_gt (eD sW):dZ≠gN));replace gH:=ah.mk (az sW hb);clear hb bH hg;have ai7:=qC.out;have ai8:=eU.out;have ES:w6.cell? ⟨dZ,0,none⟩=some (.int .i64 0):=(af cw.out 0).trans rfl;have ET:w6.cell? ⟨dZ,1,none⟩=some (.bool false):=(af cw.out 1).trans rfl;have W7:w6.cell? ⟨dZ,2,none⟩=some (.slice none 0 0):=(af cw.out 2).trans rfl;have afX:w6.cell? ⟨dZ,3,none⟩=some (.string (⟨#[]⟩:ByteArray)):=(af cw.out 3).trans rfl;have afY:w6.cell? ⟨dZ,4,none⟩=some (.string (⟨#[]⟩:ByteArray)):=(af cw.out 4).trans rfl;have afZ:w6.cell? ⟨dZ,5,none⟩=some (.bool false):=(af cw.out 5).trans rfl;have af0:w6.cell? ⟨dZ,6,none⟩=some (.slice none 0 0):=(af cw.out 6).trans rfl;have af1:w6.cell? ⟨dZ,7,none⟩=some (.slice none 0 0):=(af cw.out 7).trans rfl;have af2:w6.cell? ⟨dZ,8,none⟩=some (.int .i64 0):=(af cw.out 8).trans rfl;have EU:=aa cw.out 0;have EW:=aa cw.out 1;have W8:=aa cw.out 2;have af3:=aa cw.out 3;have af4:=aa cw.out 4;have af5:=aa cw.out 5;have af6:=aa cw.out 6;have af7:=aa cw.out 7;have af8:=aa cw.out 8))
  go_loopg [21] k (fun kq v21 w'=>∃ (mI:Int) (iz:List (jN)) (kJ:Value),v21= .int .i64 mI∧ah (cj.l0 kq l2 (l2.length:Int) mI a0 true (⟨#[]⟩:ByteArray) (⟨#[]⟩:ByteArray) false iz 0=some (r1,r2,r3,r4,r5,r6,r7,r8,r9))∧ah (kq≤k)∧ah (Kd.R sN 37 w' w.heap.size (fun _ =>True) kJ iz)∧ah (w'.heap[gN]? =some (.cells #[.int .i64 0,.bool false,(.slice none 0 0),.string (⟨#[]⟩:ByteArray),.string (⟨#[]⟩:ByteArray),.bool false,(.slice none 0 0),(.slice none 0 0),.int .i64 0] 34 (0,0)))∧ah (w'.heap[dZ]? =some (.cells #[.int .i64 a0,.bool true,(.slice none 0 0),.string (⟨#[]⟩:ByteArray),.string (⟨#[]⟩:ByteArray),.bool false,kJ,(.slice none 0 0),.int .i64 0] 34 (0,0)))∧ah (Below w.heap.size w w'))
  case atStart=>exact ⟨(0),(([]:List (jN))),(.slice none 0 0),(by rfl),H',⟨Nat.le_refl _⟩,⟨qH⟩,⟨by refine aR ?_ eU.out _;refine aR ?_ eU.out _;refine aR ?_ eU.out _;refine aR ?_ eU.out _;refine aR ?_ eU.out _;refine aR ?_ eU.out _;refine aR ?_ eU.out _;refine aR ?_ eU.out _;refine aR ?_ eU.out _;refine aR ?_ eU.out _;refine aR ?_ eU.out _;refine aR ?_ eU.out _;refine aR ?_ eU.out _;refine aR ?_ eU.out _;exact gH.out⟩,⟨by refine aW (cs:=#[.int .i64 a0,.bool true,.slice none 0 0,.string (⟨#[]⟩:ByteArray),.string (⟨#[]⟩:ByteArray),.bool false,.slice none 0 0,.slice none 0 0,.int .i64 0]) ?_ 5 _ rfl;refine aW (cs:=#[.int .i64 a0,.bool true,.slice none 0 0,.string (⟨#[]⟩:ByteArray),.string (⟨#[98]⟩:ByteArray),.bool false,.slice none 0 0,.slice none 0 0,.int .i64 0]) ?_ 4 _ rfl;refine aW (cs:=#[.int .i64 a0,.bool true,.slice none 0 0,.string a1,.string (⟨#[98]⟩:ByteArray),.bool false,.slice none 0 0,.slice none 0 0,.int .i64 0]) ?_ 3 _ rfl;refine aW (cs:=#[.int .i64 a0,.bool true,.slice none 0 0,.string a1,.string (⟨#[98]⟩:ByteArray),.bool false,.slice none 0 0,.slice none 0 0,.int .i64 0]) ?_ 2 _ rfl;refine aW (cs:=#[.int .i64 a0,.bool false,.slice none 0 0,.string a1,.string (⟨#[98]⟩:ByteArray),.bool false,.slice none 0 0,.slice none 0 0,.int .i64 0]) ?_ 1 _ rfl;refine aW (cs:=#[.int .i64 a0,.bool false,.slice none 0 0,.string a1,.string (⟨#[98]⟩:ByteArray),.bool false,.slice none 0 0,.slice none 0 0,.int .i64 0]) ?_ 8 _ rfl;refine aW (cs:=#[.int .i64 a0,.bool false,.slice none 0 0,.string a1,.string (⟨#[98]⟩:ByteArray),.bool false,.slice none 0 0,.slice none 0 0,.int .i64 0]) ?_ 7 _ rfl;refine aW (cs:=#[.int .i64 a0,.bool false,.slice none 0 0,.string a1,.string (⟨#[98]⟩:ByteArray),.bool false,.slice none 0 0,.slice none 0 0,.int .i64 0]) ?_ 6 _ rfl;refine aW (cs:=#[.int .i64 a0,.bool false,.slice none 0 0,.string a1,.string (⟨#[98]⟩:ByteArray),.bool false,.slice none 0 0,.slice none 0 0,.int .i64 0]) ?_ 5 _ rfl;refine aW (cs:=#[.int .i64 a0,.bool false,.slice none 0 0,.string a1,.string (⟨#[]⟩:ByteArray),.bool false,.slice none 0 0,.slice none 0 0,.int .i64 0]) ?_ 4 _ rfl;refine aW (cs:=#[.int .i64 a0,.bool false,.slice none 0 0,.string (⟨#[]⟩:ByteArray),.string (⟨#[]⟩:ByteArray),.bool false,.slice none 0 0,.slice none 0 0,.int .i64 0]) ?_ 3 _ rfl;refine aW (cs:=#[.int .i64 a0,.bool false,.slice none 0 0,.string (⟨#[]⟩:ByteArray),.string (⟨#[]⟩:ByteArray),.bool false,.slice none 0 0,.slice none 0 0,.int .i64 0]) ?_ 2 _ rfl;refine aW (cs:=#[.int .i64 a0,.bool false,.slice none 0 0,.string (⟨#[]⟩:ByteArray),.string (⟨#[]⟩:ByteArray),.bool false,.slice none 0 0,.slice none 0 0,.int .i64 0]) ?_ 1 _ rfl;refine aW (cs:=#[.int .i64 0,.bool false,.slice none 0 0,.string (⟨#[]⟩:ByteArray),.string (⟨#[]⟩:ByteArray),.bool false,.slice none 0 0,.slice none 0 0,.int .i64 0]) ?_ 0 _ rfl;exact cw.out⟩,⟨C0⟩⟩
  case round=>
   clear H'
   obtain ⟨mI,iz,kJ,rfl,HA,oI,kP,gH,cw,HB⟩:=hrel
   cases gk with
   |zero=>exact absurd HA.out (by simp [cj.l0])
   |succ k1=>
    have H:=HA.out
    clear HA
    simp only [cj.l0] at H
    by_cases c9:mI < (l2.length:Int)
    ·rw [if_pos c9] at H
     have af9:=decide_eq_true c9
     clear c9
     obtain ⟨c10,H⟩:=lg H
     have GM:=decide_eq_true c10
     clear c10
     obtain ⟨c11,H⟩:=lg H
     have EX:=decide_eq_true c11
     clear c11
     obtain ⟨c12,H⟩:=lg H
     have ai9:=ah.mk c12
     clear c12
     obtain ⟨IX,EY⟩:∃ y_:List (jN),y_=(iz ++ [(⟨(⟨oQ ByteArray.empty l2 mI,(⟨#[99]⟩:ByteArray),false⟩:GI),0,0,0⟩:jN)]):=⟨_,rfl⟩
     replace H:(cj.l0 k1 l2 (l2.length:Int) (wrap64 (mI + 1)) a0 true (⟨#[]⟩:ByteArray) (⟨#[]⟩:ByteArray) false IX 0)=some (r1,r2,r3,r4,r5,r6,r7,r8,r9):=by (rw [EY];with_reducible exact H)
     have W9:=ah.mk EY
     clear EY
     have H':=ah.mk H
     clear H
     have N0: 0≤(mI:Int):=of_decide_eq_true cL
     have N1:mI < (l2.length:Int):=of_decide_eq_true cL
     obtain ⟨aja,aga,vG⟩:=Kd.kN HR2.out mI N0 N1
     cases aga
     replace vG:=(HB.out.cell (World.block_lt_of_cell? w _ vG)).trans vG
     replace N0:=eq_true N0
     replace N1:=eq_true N1
     have ajb:=qC.out
     have ajc:=eU.out
     have Aa:wr.cell? ⟨dZ,0,none⟩=some (.int .i64 a0):=(af cw.out 0).trans rfl
     have Ab:wr.cell? ⟨dZ,1,none⟩=some (.bool true):=(af cw.out 1).trans rfl
     have Dy:wr.cell? ⟨dZ,2,none⟩=some (.slice none 0 0):=(af cw.out 2).trans rfl
     have Dz:wr.cell? ⟨dZ,3,none⟩=some (.string (⟨#[]⟩:ByteArray)):=(af cw.out 3).trans rfl
     have DA:wr.cell? ⟨dZ,4,none⟩=some (.string (⟨#[]⟩:ByteArray)):=(af cw.out 4).trans rfl
     have DB:wr.cell? ⟨dZ,5,none⟩=some (.bool false):=(af cw.out 5).trans rfl
     have IJ:wr.cell? ⟨dZ,6,none⟩=some (kJ):=(af cw.out 6).trans rfl
     have IK:wr.cell? ⟨dZ,7,none⟩=some (.slice none 0 0):=(af cw.out 7).trans rfl
     have IL:wr.cell? ⟨dZ,8,none⟩=some (.int .i64 0):=(af cw.out 8).trans rfl
     have Ac:=aa cw.out 0
     have Ad:=aa cw.out 1
     have DC:=aa cw.out 2
     have DD:=aa cw.out 3
     have DF:=aa cw.out 4
     have DG:=aa cw.out 5
     have IM:=aa cw.out 6
     have IP:=aa cw.out 7
     have IQ:=aa cw.out 8
     go_wp2_with (((with_reducible refine mZ (b:= .append) (xs:=#[.tmp 26,.tmp 30]) rfl ?_);at_builtin;refine Kd.su sN (w0:=w) w.heap.size rfl (.tmp 26) (.tmp 30) 32 37 (.agg #[(.string ⟨#[]⟩),(.string ⟨#[]⟩),(.bool false),(.int .u8 0),(.int .i64 0),(.int .i64 0)]) 64 rfl Tryz.underlying32 NU rfl bC aA kJ iz (⟨(⟨oQ ByteArray.empty l2 mI,(⟨#[99]⟩:ByteArray),false⟩:GI),0,0,0⟩:jN) [.string (oQ ByteArray.empty l2 mI),.string (⟨#[99]⟩:ByteArray),.bool false,.int .u8 0,.int .i64 0,.int .i64 0] (fun _ =>True) (fun _ =>False) rfl rfl ?aP (fun _ hk=>hk.elim) ?aF ?aO ?aB ?aS ?aL ?_;(case aP=>exact Dk _ _ _ (⟨(⟨oQ ByteArray.empty l2 mI,(⟨#[99]⟩:ByteArray),false⟩:GI),0,0,0⟩:jN));(case aB=>exact aI);(case aF=>exact (fun _ _ =>trivial));(case aO=>exact (by exact kP.out));(case aS=>exact (bV aI));(case aL=>have:=ai9.out;omega);intro aCs wO ho hb hg hat;rw [← W9.out] at ho;replace gH:=ah.mk (fU (g:=gN) (o:= .cells #[.int .i64 0,.bool false,.slice none 0 0,.string (⟨#[]⟩:ByteArray),.string (⟨#[]⟩:ByteArray),.bool false,.slice none 0 0,.slice none 0 0,.int .i64 0] 34 (0,0)) sW hg (Kd.vq kP.out gH.out bC));replace cw:=ah.mk (fU (g:=dZ) (o:= .cells #[.int .i64 a0,.bool true,.slice none 0 0,.string (⟨#[]⟩:ByteArray),.string (⟨#[]⟩:ByteArray),.bool false,kJ,.slice none 0 0,.int .i64 0] 34 (0,0)) (by exact cw.out) hg (Kd.vq kP.out cw.out bC));replace HB:=ah.mk (hb);have LY:=ah.mk (ho);clear kP;clear ho hb hg hat;obtain ⟨N2,N3,Xa⟩:=Kd.dF LY.out;subst Xa;have Zo:wO.cell? ⟨dZ,0,none⟩=some (.int .i64 a0):=(af cw.out 0).trans rfl;have Zp:wO.cell? ⟨dZ,1,none⟩=some (.bool true):=(af cw.out 1).trans rfl;have aqR:wO.cell? ⟨dZ,2,none⟩=some (.slice none 0 0):=(af cw.out 2).trans rfl;have aqS:wO.cell? ⟨dZ,3,none⟩=some (.string (⟨#[]⟩:ByteArray)):=(af cw.out 3).trans rfl;have aqT:wO.cell? ⟨dZ,4,none⟩=some (.string (⟨#[]⟩:ByteArray)):=(af cw.out 4).trans rfl;have aqU:wO.cell? ⟨dZ,5,none⟩=some (.bool false):=(af cw.out 5).trans rfl;have aqV:wO.cell? ⟨dZ,6,none⟩=some (kJ):=(af cw.out 6).trans rfl;have aqW:wO.cell? ⟨dZ,7,none⟩=some (.slice none 0 0):=(af cw.out 7).trans rfl;have aqX:wO.cell? ⟨dZ,8,none⟩=some (.int .i64 0):=(af cw.out 8).trans rfl;have Zq:=aa cw.out 0;have Zr:=aa cw.out 1;have aqY:=aa cw.out 2;have aqZ:=aa cw.out 3;have aq0:=aa cw.out 4;have aq1:=aa cw.out 5;have aq2:=aa cw.out 6;have aq3:=aa cw.out 7;have aq4:=aa cw.out 8))
     go_roundg k1
     case measure=>have:=oI.out;omega
     case rel=>exact ⟨(wrap64 (mI + 1)),(IX),(.slice N2 IX.length N3),(by rfl),H',⟨lS⟩,⟨by exact Kd.cB (Kd.bf (p:=⟨dZ,6,none⟩) (Kd.cS LY.out cw.out bC) (fun _ hk=>hk.2) (.slice N2 IX.length N3)) (fun _ hk=>trivial)⟩,⟨by refine aR ?_ eU.out _;exact gH.out⟩,⟨by refine aW (cs:=#[.int .i64 a0,.bool true,.slice none 0 0,.string (⟨#[]⟩:ByteArray),.string (⟨#[]⟩:ByteArray),.bool false,kJ,.slice none 0 0,.int .i64 0]) ?_ 6 _ rfl;exact cw.out⟩,⟨C0⟩⟩
    ·rw [if_neg c9] at H
     have af9:=decide_eq_false c9
     clear c9
     simp only [Option.some.injEq,Prod.mk.injEq] at H
     obtain ⟨rfl,rfl,rfl,rfl,rfl,rfl,rfl,rfl,rfl⟩:=H
     have aeN:=qC.out
     have aeO:=eU.out
     have IY:wr.cell? ⟨dZ,0,none⟩=some (.int .i64 a0):=(af cw.out 0).trans rfl
     have IZ:wr.cell? ⟨dZ,1,none⟩=some (.bool true):=(af cw.out 1).trans rfl
     have I0:wr.cell? ⟨dZ,2,none⟩=some (.slice none 0 0):=(af cw.out 2).trans rfl
     have I1:wr.cell? ⟨dZ,3,none⟩=some (.string (⟨#[]⟩:ByteArray)):=(af cw.out 3).trans rfl
     have I2:wr.cell? ⟨dZ,4,none⟩=some (.string (⟨#[]⟩:ByteArray)):=(af cw.out 4).trans rfl
     have I3:wr.cell? ⟨dZ,5,none⟩=some (.bool false):=(af cw.out 5).trans rfl
     have I4:wr.cell? ⟨dZ,6,none⟩=some (kJ):=(af cw.out 6).trans rfl
     have I5:wr.cell? ⟨dZ,7,none⟩=some (.slice none 0 0):=(af cw.out 7).trans rfl
     have I6:wr.cell? ⟨dZ,8,none⟩=some (.int .i64 0):=(af cw.out 8).trans rfl
     have I7:=aa cw.out 0
     have I8:=aa cw.out 1
     have I9:=aa cw.out 2
     have Ja:=aa cw.out 3
     have Jb:=aa cw.out 4
     have Jc:=aa cw.out 5
     have Jd:=aa cw.out 6
     have Je:=aa cw.out 7
     have Jf:=aa cw.out 8
     have Ae:wr.cell? ⟨gN,0,none⟩=some (.int .i64 0):=(af gH.out 0).trans rfl
     have Af:wr.cell? ⟨gN,1,none⟩=some (.bool false):=(af gH.out 1).trans rfl
     have Ag:wr.cell? ⟨gN,2,none⟩=some (.slice none 0 0):=(af gH.out 2).trans rfl
     have DW:wr.cell? ⟨gN,3,none⟩=some (.string (⟨#[]⟩:ByteArray)):=(af gH.out 3).trans rfl
     have DX:wr.cell? ⟨gN,4,none⟩=some (.string (⟨#[]⟩:ByteArray)):=(af gH.out 4).trans rfl
     have DY:wr.cell? ⟨gN,5,none⟩=some (.bool false):=(af gH.out 5).trans rfl
     have Jg:wr.cell? ⟨gN,6,none⟩=some (.slice none 0 0):=(af gH.out 6).trans rfl
     have Jh:wr.cell? ⟨gN,7,none⟩=some (.slice none 0 0):=(af gH.out 7).trans rfl
     have Ji:wr.cell? ⟨gN,8,none⟩=some (.int .i64 0):=(af gH.out 8).trans rfl
     have Ah:=aa gH.out 0
     have Ai:=aa gH.out 1
     have Aj:=aa gH.out 2
     have DZ:=aa gH.out 3
     have D2:=aa gH.out 4
     have D3:=aa gH.out 5
     have Jj:=aa gH.out 6
     have Jk:=aa gH.out 7
     have Jl:=aa gH.out 8
     obtain ⟨Zt,Zu,aCt⟩:=Kd.dF kP.out
     subst aCt
     go_wp2
     refine bodyPost_ret (results_cell_row rfl _ _ gN 34 #[.int .i64 a0,.bool true,.slice none 0 0,.string (⟨#[]⟩:ByteArray),.string (⟨#[]⟩:ByteArray),.bool false,.slice Zt iz.length Zu,.slice none 0 0,.int .i64 0] (0,0) _ rfl (by refine aW (cs:=#[.int .i64 a0,.bool true,.slice none 0 0,.string (⟨#[]⟩:ByteArray),.string (⟨#[]⟩:ByteArray),.bool false,.slice Zt iz.length Zu,.slice none 0 0,.int .i64 0]) ?_ 8 _ rfl;refine aW (cs:=#[.int .i64 a0,.bool true,.slice none 0 0,.string (⟨#[]⟩:ByteArray),.string (⟨#[]⟩:ByteArray),.bool false,.slice Zt iz.length Zu,.slice none 0 0,.int .i64 0]) ?_ 7 _ rfl;refine aW (cs:=#[.int .i64 a0,.bool true,.slice none 0 0,.string (⟨#[]⟩:ByteArray),.string (⟨#[]⟩:ByteArray),.bool false,.slice none 0 0,.slice none 0 0,.int .i64 0]) ?_ 6 _ rfl;refine aW (cs:=#[.int .i64 a0,.bool true,.slice none 0 0,.string (⟨#[]⟩:ByteArray),.string (⟨#[]⟩:ByteArray),.bool false,.slice none 0 0,.slice none 0 0,.int .i64 0]) ?_ 5 _ rfl;refine aW (cs:=#[.int .i64 a0,.bool true,.slice none 0 0,.string (⟨#[]⟩:ByteArray),.string (⟨#[]⟩:ByteArray),.bool false,.slice none 0 0,.slice none 0 0,.int .i64 0]) ?_ 4 _ rfl;refine aW (cs:=#[.int .i64 a0,.bool true,.slice none 0 0,.string (⟨#[]⟩:ByteArray),.string (⟨#[]⟩:ByteArray),.bool false,.slice none 0 0,.slice none 0 0,.int .i64 0]) ?_ 3 _ rfl;refine aW (cs:=#[.int .i64 a0,.bool true,.slice none 0 0,.string (⟨#[]⟩:ByteArray),.string (⟨#[]⟩:ByteArray),.bool false,.slice none 0 0,.slice none 0 0,.int .i64 0]) ?_ 2 _ rfl;refine aW (cs:=#[.int .i64 a0,.bool false,.slice none 0 0,.string (⟨#[]⟩:ByteArray),.string (⟨#[]⟩:ByteArray),.bool false,.slice none 0 0,.slice none 0 0,.int .i64 0]) ?_ 1 _ rfl;refine aW (cs:=#[.int .i64 0,.bool false,.slice none 0 0,.string (⟨#[]⟩:ByteArray),.string (⟨#[]⟩:ByteArray),.bool false,.slice none 0 0,.slice none 0 0,.int .i64 0]) ?_ 0 _ rfl;exact gH.out) Tryz.underlying34 rfl au) rfl ?_
     exact ⟨_,_,_,by rfl,qH,by exact Kd.cB (Kd.bf (p:=⟨gN,8,none⟩) (Kd.bf (p:=⟨gN,7,none⟩) (Kd.bf (p:=⟨gN,6,none⟩) (Kd.bf (p:=⟨gN,5,none⟩) (Kd.bf (p:=⟨gN,4,none⟩) (Kd.bf (p:=⟨gN,3,none⟩) (Kd.bf (p:=⟨gN,2,none⟩) (Kd.bf (p:=⟨gN,1,none⟩) (Kd.bf (p:=⟨gN,0,none⟩) (Kd.cS kP.out gH.out bC) (fun _ hk=>hk.2) (.int .i64 a0)) (fun _ hk=>hk.2) (.bool true)) (fun _ hk=>hk.2) (.slice none 0 0)) (fun _ hk=>hk.2) (.string (⟨#[]⟩:ByteArray))) (fun _ hk=>hk.2) (.string (⟨#[]⟩:ByteArray))) (fun _ hk=>hk.2) (.bool false)) (fun _ hk=>hk.2) (.slice Zt iz.length Zu)) (fun _ hk=>hk.2) (.slice none 0 0)) (fun _ hk=>hk.2) (.int .i64 0)) (fun _ hk=>trivial),qH,PU⟩
 ·rw [if_neg c4] at H
  have ng:=beq_eq_false_iff_ne.mpr c4
  have BC:=bne_iff_ne.mpr c4
  have H':=ah.mk H
  clear H
  go_enter Tryz.func14,Tryz.ntmps14
  go_wp2_with (first|((with_reducible refine bw (N:=6) rfl ?_);refine bA ?hg (N:=6) ?hd (cs:=#[.int .i64 0,.bool false,.slice none 0 0,.string (⟨#[]⟩:ByteArray),.string (⟨#[]⟩:ByteArray),.bool false,.slice none 0 0,.slice none 0 0,.int .i64 0]) (t:=34) ?hr ?_;(case hd=>rfl);(case hg=>rfl);(case hr=>(go_simp;done));intro gN hg Y1 bH hb;have gH:=ah.mk (bH);have ai5:=ah.mk ((bG:w.heap.size≤gN));have aez:=ah.mk ((bG:w.heap.size≤gN));replace HB:=ah.mk (av aI hb);clear hb bH hg)|((with_reducible refine bw (N:=7) rfl ?_);refine bA ?hg (N:=7) ?hd (cs:=#[.int .i64 0,.bool false,.slice none 0 0,.string (⟨#[]⟩:ByteArray),.string (⟨#[]⟩:ByteArray),.bool false,.slice none 0 0,.slice none 0 0,.int .i64 0]) (t:=34) ?hr ?_;(case hd=>rfl);(case hg=>rfl);(case hr=>(go_simp;done));intro dZ hg sI bH hb;have cw:=ah.mk (bH);have ai6:=ah.mk ((bG:w.heap.size≤dZ));have aey:=ah.mk ((bG:w.heap.size≤dZ));replace HB:=ah.mk (av aI hb);have eU:=ah.mk ((by rw [hg];exact Nat.ne_of_lt (eD sW):gN≠dZ));have qC:=ah.mk ((by rw [hg];exact Nat.ne_of_gt (eD sW):dZ≠gN));replace gH:=ah.mk (az sW hb);clear hb bH hg;have ajd:=qC.out;have aje:=eU.out;have D4:sI.cell? ⟨dZ,0,none⟩=some (.int .i64 0):=(af cw.out 0).trans rfl;have D5:sI.cell? ⟨dZ,1,none⟩=some (.bool false):=(af cw.out 1).trans rfl;have D6:sI.cell? ⟨dZ,2,none⟩=some (.slice none 0 0):=(af cw.out 2).trans rfl;have Jm:sI.cell? ⟨dZ,3,none⟩=some (.string (⟨#[]⟩:ByteArray)):=(af cw.out 3).trans rfl;have Jn:sI.cell? ⟨dZ,4,none⟩=some (.string (⟨#[]⟩:ByteArray)):=(af cw.out 4).trans rfl;have Qu:sI.cell? ⟨dZ,5,none⟩=some (.bool false):=(af cw.out 5).trans rfl;have Qv:sI.cell? ⟨dZ,6,none⟩=some (.slice none 0 0):=(af cw.out 6).trans rfl;have Qw:sI.cell? ⟨dZ,7,none⟩=some (.slice none 0 0):=(af cw.out 7).trans rfl;have Qx:sI.cell? ⟨dZ,8,none⟩=some (.int .i64 0):=(af cw.out 8).trans rfl;have D7:=aa cw.out 0;have D8:=aa cw.out 1;have D9:=aa cw.out 2;have Jo:=aa cw.out 3;have Jp:=aa cw.out 4;have Qy:=aa cw.out 5;have Qz:=aa cw.out 6;have QA:=aa cw.out 7;have QB:=aa cw.out 8))
  go_loopg [21] k (fun kq v21 w'=>∃ (mI:Int) (iz:List (jN)) (kJ:Value),v21= .int .i64 mI∧ah (cj.l0 kq l2 (l2.length:Int) mI a0 false a1 (⟨#[98]⟩:ByteArray) false iz 0=some (r1,r2,r3,r4,r5,r6,r7,r8,r9))∧ah (kq≤k)∧ah (Kd.R sN 37 w' w.heap.size (fun _ =>True) kJ iz)∧ah (w'.heap[gN]? =some (.cells #[.int .i64 0,.bool false,(.slice none 0 0),.string (⟨#[]⟩:ByteArray),.string (⟨#[]⟩:ByteArray),.bool false,(.slice none 0 0),(.slice none 0 0),.int .i64 0] 34 (0,0)))∧ah (w'.heap[dZ]? =some (.cells #[.int .i64 a0,.bool false,(.slice none 0 0),.string a1,.string (⟨#[98]⟩:ByteArray),.bool false,kJ,(.slice none 0 0),.int .i64 0] 34 (0,0)))∧ah (Below w.heap.size w w'))
  case atStart=>exact ⟨(0),(([]:List (jN))),(.slice none 0 0),(by rfl),H',⟨Nat.le_refl _⟩,⟨qH⟩,⟨by refine aR ?_ eU.out _;refine aR ?_ eU.out _;refine aR ?_ eU.out _;refine aR ?_ eU.out _;refine aR ?_ eU.out _;refine aR ?_ eU.out _;refine aR ?_ eU.out _;refine aR ?_ eU.out _;refine aR ?_ eU.out _;exact gH.out⟩,⟨by refine aW (cs:=#[.int .i64 a0,.bool false,.slice none 0 0,.string a1,.string (⟨#[98]⟩:ByteArray),.bool false,.slice none 0 0,.slice none 0 0,.int .i64 0]) ?_ 8 _ rfl;refine aW (cs:=#[.int .i64 a0,.bool false,.slice none 0 0,.string a1,.string (⟨#[98]⟩:ByteArray),.bool false,.slice none 0 0,.slice none 0 0,.int .i64 0]) ?_ 7 _ rfl;refine aW (cs:=#[.int .i64 a0,.bool false,.slice none 0 0,.string a1,.string (⟨#[98]⟩:ByteArray),.bool false,.slice none 0 0,.slice none 0 0,.int .i64 0]) ?_ 6 _ rfl;refine aW (cs:=#[.int .i64 a0,.bool false,.slice none 0 0,.string a1,.string (⟨#[98]⟩:ByteArray),.bool false,.slice none 0 0,.slice none 0 0,.int .i64 0]) ?_ 5 _ rfl;refine aW (cs:=#[.int .i64 a0,.bool false,.slice none 0 0,.string a1,.string (⟨#[]⟩:ByteArray),.bool false,.slice none 0 0,.slice none 0 0,.int .i64 0]) ?_ 4 _ rfl;refine aW (cs:=#[.int .i64 a0,.bool false,.slice none 0 0,.string (⟨#[]⟩:ByteArray),.string (⟨#[]⟩:ByteArray),.bool false,.slice none 0 0,.slice none 0 0,.int .i64 0]) ?_ 3 _ rfl;refine aW (cs:=#[.int .i64 a0,.bool false,.slice none 0 0,.string (⟨#[]⟩:ByteArray),.string (⟨#[]⟩:ByteArray),.bool false,.slice none 0 0,.slice none 0 0,.int .i64 0]) ?_ 2 _ rfl;refine aW (cs:=#[.int .i64 a0,.bool false,.slice none 0 0,.string (⟨#[]⟩:ByteArray),.string (⟨#[]⟩:ByteArray),.bool false,.slice none 0 0,.slice none 0 0,.int .i64 0]) ?_ 1 _ rfl;refine aW (cs:=#[.int .i64 0,.bool false,.slice none 0 0,.string (⟨#[]⟩:ByteArray),.string (⟨#[]⟩:ByteArray),.bool false,.slice none 0 0,.slice none 0 0,.int .i64 0]) ?_ 0 _ rfl;exact cw.out⟩,⟨C0⟩⟩
  case round=>
   clear H'
   obtain ⟨mI,iz,kJ,rfl,HA,oI,kP,gH,cw,HB⟩:=hrel
   cases gk with
   |zero=>exact absurd HA.out (by simp [cj.l0])
   |succ k1=>
    have H:=HA.out
    clear HA
    simp only [cj.l0] at H
    by_cases Y2:mI < (l2.length:Int)
    ·rw [if_pos Y2] at H
     have aeP:=decide_eq_true Y2
     clear Y2
     obtain ⟨c27,H⟩:=lg H
     have ajf:=decide_eq_true c27
     clear c27
     obtain ⟨c28,H⟩:=lg H
     have Xb:=decide_eq_true c28
     clear c28
     obtain ⟨Nn,H⟩:=lg H
     have ajg:=ah.mk Nn
     clear Nn
     obtain ⟨IX,EY⟩:∃ y_:List (jN),y_=(iz ++ [(⟨(⟨oQ ByteArray.empty l2 mI,(⟨#[99]⟩:ByteArray),false⟩:GI),0,0,0⟩:jN)]):=⟨_,rfl⟩
     replace H:(cj.l0 k1 l2 (l2.length:Int) (wrap64 (mI + 1)) a0 false a1 (⟨#[98]⟩:ByteArray) false IX 0)=some (r1,r2,r3,r4,r5,r6,r7,r8,r9):=by (rw [EY];with_reducible exact H)
     have W9:=ah.mk EY
     clear EY
     have H':=ah.mk H
     clear H
     have N0: 0≤(mI:Int):=of_decide_eq_true cL
     have N1:mI < (l2.length:Int):=of_decide_eq_true cL
     obtain ⟨aja,aga,vG⟩:=Kd.kN HR2.out mI N0 N1
     cases aga
     replace vG:=(HB.out.cell (World.block_lt_of_cell? w _ vG)).trans vG
     replace N0:=eq_true N0
     replace N1:=eq_true N1
     have aeQ:=qC.out
     have aeR:=eU.out
     have QC:wr.cell? ⟨dZ,0,none⟩=some (.int .i64 a0):=(af cw.out 0).trans rfl
     have QD:wr.cell? ⟨dZ,1,none⟩=some (.bool false):=(af cw.out 1).trans rfl
     have QE:wr.cell? ⟨dZ,2,none⟩=some (.slice none 0 0):=(af cw.out 2).trans rfl
     have QF:wr.cell? ⟨dZ,3,none⟩=some (.string a1):=(af cw.out 3).trans rfl
     have QG:wr.cell? ⟨dZ,4,none⟩=some (.string (⟨#[98]⟩:ByteArray)):=(af cw.out 4).trans rfl
     have QH:wr.cell? ⟨dZ,5,none⟩=some (.bool false):=(af cw.out 5).trans rfl
     have Zv:wr.cell? ⟨dZ,6,none⟩=some (kJ):=(af cw.out 6).trans rfl
     have Zw:wr.cell? ⟨dZ,7,none⟩=some (.slice none 0 0):=(af cw.out 7).trans rfl
     have Zx:wr.cell? ⟨dZ,8,none⟩=some (.int .i64 0):=(af cw.out 8).trans rfl
     have QI:=aa cw.out 0
     have QJ:=aa cw.out 1
     have QK:=aa cw.out 2
     have QL:=aa cw.out 3
     have QM:=aa cw.out 4
     have QN:=aa cw.out 5
     have Zy:=aa cw.out 6
     have Zz:=aa cw.out 7
     have ZA:=aa cw.out 8
     go_wp2_with (((with_reducible refine mZ (b:= .append) (xs:=#[.tmp 26,.tmp 30]) rfl ?_);at_builtin;refine Kd.su sN (w0:=w) w.heap.size rfl (.tmp 26) (.tmp 30) 32 37 (.agg #[(.string ⟨#[]⟩),(.string ⟨#[]⟩),(.bool false),(.int .u8 0),(.int .i64 0),(.int .i64 0)]) 64 rfl Tryz.underlying32 NU rfl bC aA kJ iz (⟨(⟨oQ ByteArray.empty l2 mI,(⟨#[99]⟩:ByteArray),false⟩:GI),0,0,0⟩:jN) [.string (oQ ByteArray.empty l2 mI),.string (⟨#[99]⟩:ByteArray),.bool false,.int .u8 0,.int .i64 0,.int .i64 0] (fun _ =>True) (fun _ =>False) rfl rfl ?aP (fun _ hk=>hk.elim) ?aF ?aO ?aB ?aS ?aL ?_;(case aP=>exact Dk _ _ _ (⟨(⟨oQ ByteArray.empty l2 mI,(⟨#[99]⟩:ByteArray),false⟩:GI),0,0,0⟩:jN));(case aB=>exact aI);(case aF=>exact (fun _ _ =>trivial));(case aO=>exact (by exact kP.out));(case aS=>exact (bV aI));(case aL=>have:=ajg.out;omega);intro aCs yh ho hb hg hat;rw [← W9.out] at ho;replace gH:=ah.mk (fU (g:=gN) (o:= .cells #[.int .i64 0,.bool false,.slice none 0 0,.string (⟨#[]⟩:ByteArray),.string (⟨#[]⟩:ByteArray),.bool false,.slice none 0 0,.slice none 0 0,.int .i64 0] 34 (0,0)) sW hg (Kd.vq kP.out gH.out bC));replace cw:=ah.mk (fU (g:=dZ) (o:= .cells #[.int .i64 a0,.bool false,.slice none 0 0,.string a1,.string (⟨#[98]⟩:ByteArray),.bool false,kJ,.slice none 0 0,.int .i64 0] 34 (0,0)) (by exact cw.out) hg (Kd.vq kP.out cw.out bC));replace HB:=ah.mk (hb);have LY:=ah.mk (ho);clear kP;clear ho hb hg hat;obtain ⟨Jq,Jr,agb⟩:=Kd.dF LY.out;subst agb;have ZB:yh.cell? ⟨dZ,0,none⟩=some (.int .i64 a0):=(af cw.out 0).trans rfl;have ZC:yh.cell? ⟨dZ,1,none⟩=some (.bool false):=(af cw.out 1).trans rfl;have aq5:yh.cell? ⟨dZ,2,none⟩=some (.slice none 0 0):=(af cw.out 2).trans rfl;have aq6:yh.cell? ⟨dZ,3,none⟩=some (.string a1):=(af cw.out 3).trans rfl;have aq7:yh.cell? ⟨dZ,4,none⟩=some (.string (⟨#[98]⟩:ByteArray)):=(af cw.out 4).trans rfl;have aq8:yh.cell? ⟨dZ,5,none⟩=some (.bool false):=(af cw.out 5).trans rfl;have aq9:yh.cell? ⟨dZ,6,none⟩=some (kJ):=(af cw.out 6).trans rfl;have ara:yh.cell? ⟨dZ,7,none⟩=some (.slice none 0 0):=(af cw.out 7).trans rfl;have arb:yh.cell? ⟨dZ,8,none⟩=some (.int .i64 0):=(af cw.out 8).trans rfl;have ZE:=aa cw.out 0;have ZF:=aa cw.out 1;have arc:=aa cw.out 2;have ard:=aa cw.out 3;have arf:=aa cw.out 4;have arh:=aa cw.out 5;have ari:=aa cw.out 6;have arj:=aa cw.out 7;have ark:=aa cw.out 8))
     go_roundg k1
     case measure=>have:=oI.out;omega
     case rel=>exact ⟨(wrap64 (mI + 1)),(IX),(.slice Jq IX.length Jr),(by rfl),H',⟨lS⟩,⟨by exact Kd.cB (Kd.bf (p:=⟨dZ,6,none⟩) (Kd.cS LY.out cw.out bC) (fun _ hk=>hk.2) (.slice Jq IX.length Jr)) (fun _ hk=>trivial)⟩,⟨by refine aR ?_ eU.out _;exact gH.out⟩,⟨by refine aW (cs:=#[.int .i64 a0,.bool false,.slice none 0 0,.string a1,.string (⟨#[98]⟩:ByteArray),.bool false,kJ,.slice none 0 0,.int .i64 0]) ?_ 6 _ rfl;exact cw.out⟩,⟨C0⟩⟩
    ·rw [if_neg Y2] at H
     have aeP:=decide_eq_false Y2
     clear Y2
     simp only [Option.some.injEq,Prod.mk.injEq] at H
     obtain ⟨rfl,rfl,rfl,rfl,rfl,rfl,rfl,rfl,rfl⟩:=H
     have aFJ:=qC.out
     have aFK:=eU.out
     have ZG:wr.cell? ⟨dZ,0,none⟩=some (.int .i64 a0):=(af cw.out 0).trans rfl
     have ZH:wr.cell? ⟨dZ,1,none⟩=some (.bool false):=(af cw.out 1).trans rfl
     have ZI:wr.cell? ⟨dZ,2,none⟩=some (.slice none 0 0):=(af cw.out 2).trans rfl
     have ZJ:wr.cell? ⟨dZ,3,none⟩=some (.string a1):=(af cw.out 3).trans rfl
     have ZK:wr.cell? ⟨dZ,4,none⟩=some (.string (⟨#[98]⟩:ByteArray)):=(af cw.out 4).trans rfl
     have ZL:wr.cell? ⟨dZ,5,none⟩=some (.bool false):=(af cw.out 5).trans rfl
     have ZM:wr.cell? ⟨dZ,6,none⟩=some (kJ):=(af cw.out 6).trans rfl
     have ZN:wr.cell? ⟨dZ,7,none⟩=some (.slice none 0 0):=(af cw.out 7).trans rfl
     have ZO:wr.cell? ⟨dZ,8,none⟩=some (.int .i64 0):=(af cw.out 8).trans rfl
     have ZP:=aa cw.out 0
     have ZQ:=aa cw.out 1
     have ZR:=aa cw.out 2
     have ZT:=aa cw.out 3
     have ZU:=aa cw.out 4
     have ZV:=aa cw.out 5
     have ZW:=aa cw.out 6
     have ZX:=aa cw.out 7
     have ZY:=aa cw.out 8
     have Js:wr.cell? ⟨gN,0,none⟩=some (.int .i64 0):=(af gH.out 0).trans rfl
     have Jt:wr.cell? ⟨gN,1,none⟩=some (.bool false):=(af gH.out 1).trans rfl
     have Ju:wr.cell? ⟨gN,2,none⟩=some (.slice none 0 0):=(af gH.out 2).trans rfl
     have QO:wr.cell? ⟨gN,3,none⟩=some (.string (⟨#[]⟩:ByteArray)):=(af gH.out 3).trans rfl
     have QS:wr.cell? ⟨gN,4,none⟩=some (.string (⟨#[]⟩:ByteArray)):=(af gH.out 4).trans rfl
     have QT:wr.cell? ⟨gN,5,none⟩=some (.bool false):=(af gH.out 5).trans rfl
     have QU:wr.cell? ⟨gN,6,none⟩=some (.slice none 0 0):=(af gH.out 6).trans rfl
     have QV:wr.cell? ⟨gN,7,none⟩=some (.slice none 0 0):=(af gH.out 7).trans rfl
     have QX:wr.cell? ⟨gN,8,none⟩=some (.int .i64 0):=(af gH.out 8).trans rfl
     have Jv:=aa gH.out 0
     have Jw:=aa gH.out 1
     have Jx:=aa gH.out 2
     have QY:=aa gH.out 3
     have QZ:=aa gH.out 4
     have Q0:=aa gH.out 5
     have Q3:=aa gH.out 6
     have Q4:=aa gH.out 7
     have Q5:=aa gH.out 8
     obtain ⟨EZ,E0,agc⟩:=Kd.dF kP.out
     subst agc
     go_wp2
     refine bodyPost_ret (results_cell_row rfl _ _ gN 34 #[.int .i64 a0,.bool false,.slice none 0 0,.string a1,.string (⟨#[98]⟩:ByteArray),.bool false,.slice EZ iz.length E0,.slice none 0 0,.int .i64 0] (0,0) _ rfl (by refine aW (cs:=#[.int .i64 a0,.bool false,.slice none 0 0,.string a1,.string (⟨#[98]⟩:ByteArray),.bool false,.slice EZ iz.length E0,.slice none 0 0,.int .i64 0]) ?_ 8 _ rfl;refine aW (cs:=#[.int .i64 a0,.bool false,.slice none 0 0,.string a1,.string (⟨#[98]⟩:ByteArray),.bool false,.slice EZ iz.length E0,.slice none 0 0,.int .i64 0]) ?_ 7 _ rfl;refine aW (cs:=#[.int .i64 a0,.bool false,.slice none 0 0,.string a1,.string (⟨#[98]⟩:ByteArray),.bool false,.slice none 0 0,.slice none 0 0,.int .i64 0]) ?_ 6 _ rfl;refine aW (cs:=#[.int .i64 a0,.bool false,.slice none 0 0,.string a1,.string (⟨#[98]⟩:ByteArray),.bool false,.slice none 0 0,.slice none 0 0,.int .i64 0]) ?_ 5 _ rfl;refine aW (cs:=#[.int .i64 a0,.bool false,.slice none 0 0,.string a1,.string (⟨#[]⟩:ByteArray),.bool false,.slice none 0 0,.slice none 0 0,.int .i64 0]) ?_ 4 _ rfl;refine aW (cs:=#[.int .i64 a0,.bool false,.slice none 0 0,.string (⟨#[]⟩:ByteArray),.string (⟨#[]⟩:ByteArray),.bool false,.slice none 0 0,.slice none 0 0,.int .i64 0]) ?_ 3 _ rfl;refine aW (cs:=#[.int .i64 a0,.bool false,.slice none 0 0,.string (⟨#[]⟩:ByteArray),.string (⟨#[]⟩:ByteArray),.bool false,.slice none 0 0,.slice none 0 0,.int .i64 0]) ?_ 2 _ rfl;refine aW (cs:=#[.int .i64 a0,.bool false,.slice none 0 0,.string (⟨#[]⟩:ByteArray),.string (⟨#[]⟩:ByteArray),.bool false,.slice none 0 0,.slice none 0 0,.int .i64 0]) ?_ 1 _ rfl;refine aW (cs:=#[.int .i64 0,.bool false,.slice none 0 0,.string (⟨#[]⟩:ByteArray),.string (⟨#[]⟩:ByteArray),.bool false,.slice none 0 0,.slice none 0 0,.int .i64 0]) ?_ 0 _ rfl;exact gH.out) Tryz.underlying34 rfl au) rfl ?_
     exact ⟨_,_,_,by rfl,qH,by exact Kd.cB (Kd.bf (p:=⟨gN,8,none⟩) (Kd.bf (p:=⟨gN,7,none⟩) (Kd.bf (p:=⟨gN,6,none⟩) (Kd.bf (p:=⟨gN,5,none⟩) (Kd.bf (p:=⟨gN,4,none⟩) (Kd.bf (p:=⟨gN,3,none⟩) (Kd.bf (p:=⟨gN,2,none⟩) (Kd.bf (p:=⟨gN,1,none⟩) (Kd.bf (p:=⟨gN,0,none⟩) (Kd.cS kP.out gH.out bC) (fun _ hk=>hk.2) (.int .i64 a0)) (fun _ hk=>hk.2) (.bool false)) (fun _ hk=>hk.2) (.slice none 0 0)) (fun _ hk=>hk.2) (.string a1)) (fun _ hk=>hk.2) (.string (⟨#[98]⟩:ByteArray))) (fun _ hk=>hk.2) (.bool false)) (fun _ hk=>hk.2) (.slice EZ iz.length E0)) (fun _ hk=>hk.2) (.slice none 0 0)) (fun _ hk=>hk.2) (.int .i64 0)) (fun _ hk=>trivial),qH,PU⟩
end Go.Proofs.YtbjjaaodfbjkfaaGreatDoor.ow
