import Derived.Test.YtbjjaaodfbjkfaaGreatDoorQQux2
import Derived.Test.YtbjjaaodfbjkfaaGreatDoorQQux11
set_option maxHeartbeats 8000000
set_option maxRecDepth 100000
namespace Go.Proofs.YtbjjaaodfbjkfaaGreatDoor.mU
open Go.RowKit Go.Proofs.YtbjjaaodfbjkfaaGreatDoor.yN Go.Proofs.ak.bR Go.Proofs.ak.dz Go.Proofs.ak.cZ
attribute [local go_sem] iR iT jW jX gW gX jh ji
set_option linter.unusedVariables false
set_option linter.unusedSimpArgs false
attribute [local go_sem high] abD
def cY.l0:Nat→List Int→Int→Int→Option (List Int)
 | 0,_,_,_ =>none
 |k + 1,x0,x1,x5=>if x5≥0 then (if 0≤(wrap64 (8 * x5)) then (if x0.length < 140737488355328 then (cY.l0 k (x0 ++ [(shr .i64 x1 (wrap64 (8 * x5))) % 256]) x1 (wrap64 (x5 - 1))) else (none)) else (none)) else (some x0)
def cY.f (k:Nat) (l0:List Int) (a1:Int):Option (List Int):=cY.l0 k l0 a1 5
theorem cY.ey:∀ k,(∀ y0 y1 y2,eZ (cY.l0 k y0 y1 y2) (cY.l0 (k + 1) y0 y1 y2))
 | 0=>fun _ _ _ r h=>by simp [cY.l0] at h
 |k + 1=>by
  have mH:=cY.ey k
  ·intro y0 y1 y2
   unfold cY.l0
   repeat' (with_reducible first|exact mH _ _ _|exact eZ.refl _|refine eZ.ite ?_ ?_)
theorem cY.mono:∀ a0 a1 k,eZ (cY.f k a0 a1) (cY.f (k + 1) a0 a1):=by
 intro a0 a1 k
 have mH:=cY.ey k
 unfold cY.f
 repeat' (with_reducible exact mH _ _ _)
theorem cY.calls (k:Nat) (P0_:Nat→Prop) (M8:Value) (l0:List Int) (a1:Int) (r:List Int) (w0 w:World) (hB:Below w0.heap.size w0 w) (ho0:Kd.R (Kd.int .u8) 5 w w0.heap.size P0_ M8 l0) (h:cY.f k l0 a1=some r):
 Calls Tryz.prog 62 #[M8,.int .i64 a1] w fun e w'=>∃ D5:Value,e= .returned (D5)∧Kd.R (Kd.int .u8) 5 w' w0.heap.size (fun k_ =>(P0_ k_∨w.heap.size≤k_)) D5 r∧Below w0.heap.size w0 w'∧Kept w w' (fun k_ =>P0_ k_):=by
 have HO0:=ah.mk (show Kd.R (Kd.int .u8) 5 w w0.heap.size (fun k_ =>(P0_ k_∨w.heap.size≤k_)) M8 l0 from Kd.dH ho0 (fun k_ hk=>(.inl hk)))
 have HK:=ah.mk (Kept.refl w (fun k_ =>P0_ k_))
 have HW0:=ah.mk hB.size
 have HB:=ah.mk hB
 clear hB
 have H:(cY.l0 k l0 a1 5)=some r:=h
 clear h
 have H':=ah.mk H
 clear H
 go_enter Tryz.func62,Tryz.ntmps62
 go_wp2
 go_loopg [0,5] k (fun kq v0 v5 w'=>∃ (U9:List Int) (yY:Int),v5= .int .i64 yY∧ah (cY.l0 kq U9 a1 yY=some r)∧ah (kq≤k)∧ah (Kd.R (Kd.int .u8) 5 w' w0.heap.size (fun k_ =>(P0_ k_∨w.heap.size≤k_)) v0 U9)∧ah (Kept w w' (fun k_ =>P0_ k_))∧ah (Below w0.heap.size w0 w'))
 case atStart=>exact ⟨(l0),(5),(by rfl),H',⟨Nat.le_refl _⟩,⟨by exact HO0.out⟩,⟨kr⟩,⟨aJ⟩⟩
 case round=>
  clear H'
  obtain ⟨U9,yY,rfl,HA,qi,aaj,HK,HB⟩:=hrel
  cases gk with
  |zero=>exact absurd HA.out (by simp [cY.l0])
  |succ k1=>
   have H:=HA.out
   clear HA
   simp only [cY.l0] at H
   by_cases c3:yY≥0
   ·rw [if_pos c3] at H
    have ny:decide (0≤yY)=true:=decide_eq_true c3
    clear c3
    obtain ⟨ji4,akv⟩:∃ j_:Int,(wrap64 (8 * yY))=j_ :=⟨_,rfl⟩
    (rw [akv] at H)
    have aBW:(IntKind.i64.wrap (8 * yY))=ji4:=(aV _).trans akv
    obtain ⟨c5,H⟩:=lO H
    have p8:=eq_true c5
    have Mr:=decide_eq_true c5
    clear c5
    obtain ⟨ji6,aek⟩:∃ j_:Int,(shr .i64 a1 (ji4))=j_ :=⟨_,rfl⟩
    (rw [aek] at H)
    have aBX:(a1 / 2 ^ min (ji4).toNat 64)=ji6:=aek
    have aBY:(ji4)≤64→(a1 / 2 ^ (ji4).toNat)=ji6:=Rn aek
    obtain ⟨c7,H⟩:=lO H
    have ayU:=ah.mk c7
    clear c7
    obtain ⟨akx,Va⟩:∃ y_:List Int,y_=(U9 ++ [(ji6) % 256]):=⟨_,rfl⟩
    replace H:(cY.l0 k1 akx a1 (wrap64 (yY - 1)))=some r:=by (rw [Va];with_reducible exact H)
    have aky:=ah.mk Va
    clear Va
    have H':=ah.mk H
    clear H
    go_wp2_with (((with_reducible refine oG (b:= .append) (xs:=#[.tmp 10,.tmp 16]) rfl ?_);at_builtin;refine Kd.vW (Kd.int .u8) (w0:=w0) w0.heap.size rfl (.tmp 10) (.tmp 16) 22 5 (.int .u8 0) 1 rfl Tryz.underlying22 abg rfl bC az u0 U9 ((ji6) % 256) [.int .u8 ((ji6) % 256)] (fun k_ =>(P0_ k_∨w.heap.size≤k_)) (fun _ =>False) rfl rfl ?aP (fun _ hk=>hk.elim) ?aF ?aO ?aB ?aS ?aL ?_;(case aP=>exact rfl);(case aB=>exact aJ);(case aF=>exact (fun k_ hk=>(.inr (Nat.le_trans (by exact HK.out.1) hk))));(case aO=>exact (by exact aaj.out));(case aS=>exact (b7 aJ));(case aL=>have:=ayU.out;omega);intro aE1 w8 ho hb hg hat;rw [← aky.out] at ho;replace HB:=ah.mk (hb);replace HK:=ah.mk (Kept.Kr (S:=(fun k_ =>P0_ k_)) hg kr (fun k_ e_ =>(aaj.out.1 k_ e_)));have akz:=ah.mk (ho);clear aaj;clear ho hb hg hat))
    go_roundg k1
    case measure=>have:=qi.out;omega
    case rel=>exact ⟨(akx),(wrap64 (yY - 1)),(by rfl),H',⟨lu⟩,⟨by exact akz.out⟩,⟨kr⟩,⟨aJ⟩⟩
   ·rw [if_neg c3] at H
    have ny:decide (0≤yY)=false:=decide_eq_false c3
    clear c3
    obtain rfl:=Option.some.inj H
    go_wp2
    go_ret
    exact ⟨_,by rfl,by exact aaj.out,aJ,kr⟩
def fG.f (k:Nat) (bg:Int) (bP:Int) (cE:Int) (bD:Int) (bI:Int) (bU:Bool) (bL:List ByteArray) (gG:ByteArray) (bW:ByteArray) (gH:Bool) (dO:List (jM)) (dP:List Int) (eP:Int):Option (List Int×Int):=(cK.f k bg bP cE bD bI bU bL gG bW gH dO dP eP).bind fun t273=>(if t273=true then (if bg=2 then (none) else (if bg=3 then ((cY.f k (([bg]:List Int)) bP).bind fun t277=>((cY.f k t277 cE).bind fun t280=>(some (t280,0)))) else (none))) else (none))
theorem fG.mono:∀ a0 a1 a2 a3 a4 a5 a6 a7 a8 a9 UI UJ a12 k,eZ (fG.f k a0 a1 a2 a3 a4 a5 a6 a7 a8 a9 UI UJ a12) (fG.f (k + 1) a0 a1 a2 a3 a4 a5 a6 a7 a8 a9 UI UJ a12):=by
 intro a0 a1 a2 a3 a4 a5 a6 a7 a8 a9 UI UJ a12 k
 unfold fG.f
 repeat' (with_reducible first|exact cY.mono _ _ _|exact cK.mono _ _ _ _ _ _ _ _ _ _ _ _ _ _|exact eZ.refl _|refine eZ.ite ?_ ?_|refine eZ.bind ?_ (fun _ =>?_))
def fG.T9:Bool×List (List Nat×List Nat):=(true,[([],[]),([],[]),([1],[1]),([0,2],[0,2]),([],[]),([4],[4]),([3,5,3],[3,5]),([6,6,0,1,2,3,4,5,6],[6]),([7,0,1,2,3,4,5,6,7],[])])
def fG.B9:List Nat:=[0,0,2,7,0,16,63,127,255]
theorem fG.ayV:pZ .any (opsOf Tryz.f21 9)=fG.T9:=by kernel_rfl
theorem fG.akA:pT fG.T9.2 fG.B9=true:=by kernel_rfl
theorem fG.calls (k:Nat) (bg:Int) (bP:Int) (cE:Int) (bD:Int) (bI:Int) (bU:Bool) (cV:Option Addr) (cU:Nat) (bL:List ByteArray) (gG:ByteArray) (bW:ByteArray) (gH:Bool) (iD:Option Addr) (iE:Nat) (dO:List (jM)) (iF:Option Addr) (iG:Nat) (dP:List Int) (eP:Int) (r1:List Int) (r2:Int) (w:World) (mN:Kd.C Kd.string w cV bL.length bL) (mY:bL.length≤cU) (Eh:Kd.C sM w iD dO.length dO) (Ei:dO.length≤iE) (Ej:Kd.C (Kd.int .u8) w iF dP.length dP) (Ek:dP.length≤iG) (hG:bq w) (h:fG.f k bg bP cE bD bI bU bL gG bW gH dO dP eP=some (r1,r2)):
 Calls Tryz.prog 21 #[.agg #[.int .u8 bg,.int .i64 bP,.int .i64 cE,.int .i64 bD,.int .i64 bI,.bool bU,.slice cV bL.length cU,.string gG,.string bW,.bool gH,.slice iD dO.length iE,.slice iF dP.length iG,.int .i64 eP]] w fun e w'=>∃ D5:Value,e= .returned (.tuple #[D5,.int .i64 r2])∧Kd.R (Kd.int .u8) 5 w' w.heap.size (fun _ =>True) D5 r1∧Below w.heap.size w w':=by
 have ahZ:=Tryz.underlying46
 have BW:=Tryz.underlying34
 have Wy:=Tryz.underlying31
 have ME:=Tryz.underlying37
 have KD:=Tryz.underlying29
 have lQ:=ah.mk mN
 have mF:=ah.mk mY
 clear mN mY
 have uN:=ah.mk Eh
 have uO:=ah.mk Ei
 clear Eh Ei
 have uP:=ah.mk Ej
 have uQ:=ah.mk Ek
 clear Ej Ek
 have HB:=ah.mk (Below.refl w.heap.size w)
 have HG:=ah.mk hG
 clear hG
 have H:((cK.f k bg bP cE bD bI bU bL gG bW gH dO dP eP).bind fun t273=>(if t273=true then (if bg=2 then (none) else (if bg=3 then ((cY.f k (([bg]:List Int)) bP).bind fun t277=>((cY.f k t277 cE).bind fun t280=>(some (t280,0)))) else (none))) else (none)))=some (r1,r2):=h
 clear h
 obtain ⟨t273,A2,H⟩:=bd_ H
 by_cases c3:t273=true
 ·subst c3
  rw [if_pos rfl] at H
  obtain ⟨Vb,Vc⟩:∃ y_:List Int,y_=(([bg]:List Int)):=⟨_,rfl⟩
  replace H:(if bg=2 then (none) else (if bg=3 then ((cY.f k Vb bP).bind fun t277=>((cY.f k t277 cE).bind fun t280=>(some (t280,0)))) else (none)))=some (r1,r2):=by (rw [Vc];with_reducible exact H)
  have akB:=ah.mk Vc
  clear Vc
  obtain ⟨c4,H⟩:=axr H
  have mQ:=beq_eq_false_iff_ne.mpr c4
  have AE:=bne_iff_ne.mpr c4
  obtain ⟨c5,H⟩:=lO H
  have p8:=beq_iff_eq.mpr c5
  have Mr:=bne_eq_false_iff_eq.mpr c5
  clear c5
  obtain ⟨t277,A6,H⟩:=bd_ H
  obtain ⟨t280,A7,H⟩:=bd_ H
  simp only [Option.some.injEq,Prod.mk.injEq] at H
  obtain ⟨rfl,rfl⟩:=H
  go_enter Tryz.func21,Tryz.ntmps21
  try go_wp2_with (first|((with_reducible refine bp (N:=1) rfl ?_);refine br ?hg (N:=1) ?hd (cs:=#[.int .u8 bg,.int .i64 bP,.int .i64 cE,.int .i64 bD,.int .i64 bI,.bool bU,.slice cV bL.length cU,.string gG,.string bW,.bool gH,.slice iD dO.length iE,.slice iF dP.length iG,.int .i64 eP]) (t:=46) ?hr ?_;(case hd=>rfl);(case hg=>rfl);(case hr=>(go_simp;done));intro fX hg w8 bG hb;have cw:=ah.mk (bG);have aBZ:=ah.mk ((bF:w.heap.size≤fX));have aB0:=ah.mk ((bF:w.heap.size≤fX));replace HB:=ah.mk (ay aJ hb);clear hb bG hg;have Ay:w8.cell? ⟨fX,0,none⟩=some (.int .u8 bg):=(af cw.out 0).trans rfl;have Az:w8.cell? ⟨fX,1,none⟩=some (.int .i64 bP):=(af cw.out 1).trans rfl;have Ue:w8.cell? ⟨fX,2,none⟩=some (.int .i64 cE):=(af cw.out 2).trans rfl;have acW:w8.cell? ⟨fX,3,none⟩=some (.int .i64 bD):=(af cw.out 3).trans rfl;have acX:w8.cell? ⟨fX,4,none⟩=some (.int .i64 bI):=(af cw.out 4).trans rfl;have acY:w8.cell? ⟨fX,5,none⟩=some (.bool bU):=(af cw.out 5).trans rfl;have ayW:w8.cell? ⟨fX,6,none⟩=some (.slice cV bL.length cU):=(af cw.out 6).trans rfl;have ayX:w8.cell? ⟨fX,7,none⟩=some (.string gG):=(af cw.out 7).trans rfl;have ayY:w8.cell? ⟨fX,8,none⟩=some (.string bW):=(af cw.out 8).trans rfl;have ayZ:w8.cell? ⟨fX,9,none⟩=some (.bool gH):=(af cw.out 9).trans rfl;have at6:w8.cell? ⟨fX,10,none⟩=some (.slice iD dO.length iE):=(af cw.out 10).trans rfl;have at7:w8.cell? ⟨fX,11,none⟩=some (.slice iF dP.length iG):=(af cw.out 11).trans rfl;have aua:w8.cell? ⟨fX,12,none⟩=some (.int .i64 eP):=(af cw.out 12).trans rfl;have AA:=aa cw.out 0;have AB:=aa cw.out 1;have Uf:=aa cw.out 2;have acZ:=aa cw.out 3;have ac0:=aa cw.out 4;have ac1:=aa cw.out 5;have ay0:=aa cw.out 6;have ay1:=aa cw.out 7;have ay2:=aa cw.out 8;have ay3:=aa cw.out 9;have aub:=aa cw.out 10;have auc:=aa cw.out 11;have aud:=aa cw.out 12)|((with_reducible refine bK (f:=58) rfl ?_);refine dB (some 9) rfl rfl Tryz.func58 aq rfl #[.agg #[.int .u8 bg,.int .i64 bP,.int .i64 cE,.int .i64 bD,.int .i64 bI,.bool bU,.slice cV bL.length cU,.string gG,.string bW,.bool gH,.slice iD dO.length iE,.slice iF dP.length iG,.int .i64 eP]] rfl dK ?_;(with_reducible refine (cK.calls k bg bP cE bD bI bU _ _ bL gG bW gH _ _ dO _ _ dP eP true _ ?bn ?bN ?cW ?fD ?gK ?gL ?nC A2.out).mono ?_);(case bn=>repeat (exact (Kd.bQ lQ.out HB.out)));(case bN=>exact mF.out);(case cW=>repeat (exact (Kd.bQ uN.out HB.out)));(case fD=>exact uO.out);(case gK=>repeat (exact (Kd.bQ uP.out HB.out)));(case gL=>exact uQ.out);(case nC=>exact bq.below HG.out aJ);rintro e pF ⟨rfl,hb⟩;refine ⟨_,rfl,?_⟩;replace cw:=ah.mk (aA (by exact cw.out) hb);replace HB:=ah.mk (ay aJ hb);(try clear hb);have We:pF.cell? ⟨fX,0,none⟩=some (.int .u8 bg):=(af cw.out 0).trans rfl;have Wf:pF.cell? ⟨fX,1,none⟩=some (.int .i64 bP):=(af cw.out 1).trans rfl;have Wh:pF.cell? ⟨fX,2,none⟩=some (.int .i64 cE):=(af cw.out 2).trans rfl;have aue:pF.cell? ⟨fX,3,none⟩=some (.int .i64 bD):=(af cw.out 3).trans rfl;have auf:pF.cell? ⟨fX,4,none⟩=some (.int .i64 bI):=(af cw.out 4).trans rfl;have aug:pF.cell? ⟨fX,5,none⟩=some (.bool bU):=(af cw.out 5).trans rfl;have auh:pF.cell? ⟨fX,6,none⟩=some (.slice cV bL.length cU):=(af cw.out 6).trans rfl;have aui:pF.cell? ⟨fX,7,none⟩=some (.string gG):=(af cw.out 7).trans rfl;have auj:pF.cell? ⟨fX,8,none⟩=some (.string bW):=(af cw.out 8).trans rfl;have auk:pF.cell? ⟨fX,9,none⟩=some (.bool gH):=(af cw.out 9).trans rfl;have akC:pF.cell? ⟨fX,10,none⟩=some (.slice iD dO.length iE):=(af cw.out 10).trans rfl;have akD:pF.cell? ⟨fX,11,none⟩=some (.slice iF dP.length iG):=(af cw.out 11).trans rfl;have akE:pF.cell? ⟨fX,12,none⟩=some (.int .i64 eP):=(af cw.out 12).trans rfl;have Wi:=aa cw.out 0;have Wj:=aa cw.out 1;have Wk:=aa cw.out 2;have aul:=aa cw.out 3;have aum:=aa cw.out 4;have aun:=aa cw.out 5;have auo:=aa cw.out 6;have aup:=aa cw.out 7;have auq:=aa cw.out 8;have aur:=aa cw.out 9;have akF:=aa cw.out 10;have akG:=aa cw.out 11;have akH:=aa cw.out 12)|((with_reducible refine bp (N:=13) rfl ?_);refine Kd.mM (Kd.int .u8) _ 5 ?hg (N:=13) ?hd (xs:=([bg]:List Int)) (inner:=[.int .u8 bg]) (ok:=fun _ =>True) (pR:=fun _ =>True) ?hr ?hp (fun _ hk=>hk) trivial (Below.refl _ _) (Nat.le_refl _) cF ?_;(case hd=>rfl);(case hg=>rfl);(case hr=>(go_simp;done));(case hp=>exact (dJ.one (show Kd.M (Kd.int .u8) _ _ _ bg [.int .u8 bg] from rfl) (dJ.none _ _)));intro aE2 D3 ael hb rz gS;clear rz gS;(rw [← akB.out] at ael);have BO:=ah.mk (Kd.dX ael (b7 aJ));replace cw:=ah.mk (aA (by exact cw.out) hb);replace HB:=ah.mk (ay aJ hb);clear hb ael;have zx:D3.cell? ⟨fX,0,none⟩=some (.int .u8 bg):=(af cw.out 0).trans rfl;have zy:D3.cell? ⟨fX,1,none⟩=some (.int .i64 bP):=(af cw.out 1).trans rfl;have CN:D3.cell? ⟨fX,2,none⟩=some (.int .i64 cE):=(af cw.out 2).trans rfl;have CO:D3.cell? ⟨fX,3,none⟩=some (.int .i64 bD):=(af cw.out 3).trans rfl;have CP:D3.cell? ⟨fX,4,none⟩=some (.int .i64 bI):=(af cw.out 4).trans rfl;have CQ:D3.cell? ⟨fX,5,none⟩=some (.bool bU):=(af cw.out 5).trans rfl;have GX:D3.cell? ⟨fX,6,none⟩=some (.slice cV bL.length cU):=(af cw.out 6).trans rfl;have GY:D3.cell? ⟨fX,7,none⟩=some (.string gG):=(af cw.out 7).trans rfl;have GZ:D3.cell? ⟨fX,8,none⟩=some (.string bW):=(af cw.out 8).trans rfl;have aus:D3.cell? ⟨fX,9,none⟩=some (.bool gH):=(af cw.out 9).trans rfl;have akI:D3.cell? ⟨fX,10,none⟩=some (.slice iD dO.length iE):=(af cw.out 10).trans rfl;have akJ:D3.cell? ⟨fX,11,none⟩=some (.slice iF dP.length iG):=(af cw.out 11).trans rfl;have akK:D3.cell? ⟨fX,12,none⟩=some (.int .i64 eP):=(af cw.out 12).trans rfl;have zz:=aa cw.out 0;have zA:=aa cw.out 1;have CR:=aa cw.out 2;have CS:=aa cw.out 3;have CT:=aa cw.out 4;have CU:=aa cw.out 5;have G0:=aa cw.out 6;have G1:=aa cw.out 7;have G3:=aa cw.out 8;have aut:=aa cw.out 9;have akL:=aa cw.out 10;have akM:=aa cw.out 11;have akN:=aa cw.out 12))
  have kj:=ah.mk (Kd.acg BO.out)
  have ko:=ah.mk (iA cw.out)
  have mV:=ah.mk (fS HB.out)
  clear BO
  clear cw
  clear HB
  have BO:=kj
  have cw:=ko
  have HB:=mV
  clear kj ko mV
  obtain ⟨My,Mz,Uc⟩:=Kd.dm BO.out
  (subst Uc)
  refine kS (n:=9) (S:=fun w'=>w'.cell? ⟨fX,0,none⟩=some (.int .u8 bg)∧w'.cell? ⟨fX,1,none⟩=some (.int .i64 bP)∧w'.cell? ⟨fX,2,none⟩=some (.int .i64 cE)∧w'.cell? ⟨fX,3,none⟩=some (.int .i64 bD)∧w'.cell? ⟨fX,4,none⟩=some (.int .i64 bI)∧w'.cell? ⟨fX,5,none⟩=some (.bool bU)∧w'.cell? ⟨fX,6,none⟩=some (.slice cV bL.length cU)∧w'.cell? ⟨fX,7,none⟩=some (.string gG)∧w'.cell? ⟨fX,8,none⟩=some (.string bW)∧w'.cell? ⟨fX,9,none⟩=some (.bool gH)∧w'.cell? ⟨fX,10,none⟩=some (.slice iD dO.length iE)∧w'.cell? ⟨fX,11,none⟩=some (.slice iF dP.length iG)∧w'.cell? ⟨fX,12,none⟩=some (.int .i64 eP)) (ds:=[]) #[false,false,false,false,false,false,false,false,false] aq (by rfl) (by rfl) ⟨(af cw.out 0).trans rfl,(af cw.out 1).trans rfl,(af cw.out 2).trans rfl,(af cw.out 3).trans rfl,(af cw.out 4).trans rfl,(af cw.out 5).trans rfl,(af cw.out 6).trans rfl,(af cw.out 7).trans rfl,(af cw.out 8).trans rfl,(af cw.out 9).trans rfl,(af cw.out 10).trans rfl,(af cw.out 11).trans rfl,(af cw.out 12).trans rfl⟩ (fun hHeld=>?_);refine kL fG.ayV fG.akA (fun dh rq=>?_)
  generalize D3.drew=vF at BO cw HB hHeld ⊢
  refine aN (i:=0) (N:=some 31) #[true,false,false,false,false,false,false,false,false] rfl rfl (bf dh.out aq) (fun _ _ _ h=>h) (Or.inl ⟨by rfl,cD⟩) rfl ?_
  refine aN (i:=1) (N:=some 32) #[true,true,false,false,false,false,false,false,false] rfl rfl (bf dh.out aq) (fun _ _ _ h=>h) (Or.inl ⟨by rfl,cD⟩) rfl ?_
  refine aN (i:=4) (N:=some 35) #[true,true,false,false,true,false,false,false,false] rfl rfl (bf dh.out aq) (fun _ _ _ h=>h) (Or.inl ⟨by rfl,cD⟩) rfl ?_
  refine fL (i:=2) (N:=some 33) #[true,true,true,false,true,false,false,false,false] rfl rfl (eV dh.out rq.out aq) (fun _ _ _ h=>h) (Or.inl ⟨by rfl,NR⟩) hHeld rfl ?_
  refine fL (i:=5) (N:=some 36) #[true,true,true,false,true,true,false,false,false] rfl rfl (eV dh.out rq.out aq) (fun _ _ _ h=>h) (Or.inl ⟨by rfl,NR⟩) hHeld rfl ?_
  refine nP (i:=3) (N:=some 34) #[true,true,true,true,true,true,false,false,false] rfl rfl (jU dh.out aq) bC (fun K hK=>?_)
  refine lF Tryz.func62 aq rfl #[.slice My Vb.length Mz,.int .i64 bP] (by rfl) rfl rfl dK ?_
  with_reducible refine (cY.calls k (fun k_ =>some k_=(.slice My Vb.length Mz:Value).ownBlock) (.slice My Vb.length Mz) Vb bP t277 w _ ?bn ?bN A6.out).mono ?_
  (case bn=>repeat ((with_reducible exact HB.out)))
  (case bN=>exact Kd.zo rfl BO.out)
  rintro e sN ⟨aE3,rfl,ho0,hb,hkp⟩
  refine ⟨_,rfl,?_⟩
  have kj:=ah.mk (DN (by exact cw.out) hkp (fun hs_ =>(fun e_ =>(Kd.zk BO.out cw.out bC) e_) hs_))
  have ko:=ah.mk (Kd.dH (ok':=fun k_ =>True) ho0 (fun k_ hk_ =>trivial))
  have mV:=ah.mk (hb)
  clear cw
  clear HB
  clear BO
  have cw:=kj
  have QM:=ko
  have HB:=mV
  clear kj ko mV
  obtain ⟨UL,UM,ad1⟩:=Kd.dm QM.out
  (subst ad1)
  refine hK.out _ _ ⟨(af cw.out 0).trans rfl,(af cw.out 1).trans rfl,(af cw.out 2).trans rfl,(af cw.out 3).trans rfl,(af cw.out 4).trans rfl,(af cw.out 5).trans rfl,(af cw.out 6).trans rfl,(af cw.out 7).trans rfl,(af cw.out 8).trans rfl,(af cw.out 9).trans rfl,(af cw.out 10).trans rfl,(af cw.out 11).trans rfl,(af cw.out 12).trans rfl⟩ (fun hHeld=>?_)
  clear hK K
  refine ku (a':=?_) ?_ ?_
  rotate_left
  ·show Act.put _ (some 34) _=_
   simp only [Act.put,List.setIfInBounds_toArray,List.set_cons_zero,List.set_cons_succ,aV,aW]
   rfl
  refine nP (i:=6) (N:=some 37) #[true,true,true,true,true,true,true,false,false] rfl rfl (jU dh.out aq) bC (fun K hK=>?_)
  refine lF Tryz.func62 aq rfl #[.slice UL t277.length UM,.int .i64 cE] (by rfl) rfl rfl dK ?_
  with_reducible refine (cY.calls k (fun k_ =>some k_=(.slice UL t277.length UM:Value).ownBlock) (.slice UL t277.length UM) t277 cE t280 w _ ?bn ?bN A7.out).mono ?_
  (case bn=>repeat ((with_reducible exact HB.out)))
  (case bN=>exact Kd.zo rfl QM.out)
  rintro e KV ⟨aE4,rfl,ho0,hb,hkp⟩
  refine ⟨_,rfl,?_⟩
  have kj:=ah.mk (DN (by exact cw.out) hkp (fun hs_ =>(fun e_ =>(Kd.zk QM.out cw.out bC) e_) hs_))
  have ko:=ah.mk (Kd.dH (ok':=fun k_ =>True) ho0 (fun k_ hk_ =>trivial))
  have mV:=ah.mk (hb)
  clear cw
  clear HB
  clear QM
  have cw:=kj
  have akO:=ko
  have HB:=mV
  clear kj ko mV
  refine hK.out _ _ ⟨(af cw.out 0).trans rfl,(af cw.out 1).trans rfl,(af cw.out 2).trans rfl,(af cw.out 3).trans rfl,(af cw.out 4).trans rfl,(af cw.out 5).trans rfl,(af cw.out 6).trans rfl,(af cw.out 7).trans rfl,(af cw.out 8).trans rfl,(af cw.out 9).trans rfl,(af cw.out 10).trans rfl,(af cw.out 11).trans rfl,(af cw.out 12).trans rfl⟩ (fun hHeld=>?_)
  clear hK K
  refine ku (a':=?_) ?_ ?_
  rotate_left
  ·show Act.put _ (some 37) _=_
   simp only [Act.put,List.setIfInBounds_toArray,List.set_cons_zero,List.set_cons_succ,aV,aW]
   rfl
  refine aN (i:=7) (N:=some 2) #[true,true,true,true,true,true,true,true,false] rfl rfl (bf dh.out aq) (fun _ _ _ h=>h) (Or.inl ⟨by rfl,cD⟩) rfl ?_
  refine aN (i:=8) (N:=some 3) #[true,true,true,true,true,true,true,true,true] rfl rfl (bf dh.out aq) (fun _ _ _ h=>h) (Or.inl ⟨by rfl,cD⟩) rfl ?_
  refine nv (nJ dh.out aq) ?_
  try go_wp2
  go_ret2
  exact ⟨_,by rfl,by exact akO.out,aJ⟩
 ·replace c3:=Bool.eq_false_iff.mpr c3
  subst c3
  rw [if_neg (show ¬ (false=true) by decide)] at H
  exact absurd H cF
def bu.l0:Nat→List ByteArray→List ByteArray→Int→Int→Option (Bool)
 | 0,_,_,_,_ =>none
 |k + 1,x0,x1,ym,pG=>if pG < ym then (if 0≤pG then (if pG < (x0.length:Int) then (if pG < (x1.length:Int) then (if (nu ByteArray.empty x0 pG).toList=(nu ByteArray.empty x1 pG).toList then (bu.l0 k x0 x1 ym (wrap64 (pG + 1))) else (some false)) else (none)) else (none)) else (none)) else (some true)
def bu.f (k:Nat) (l0:List ByteArray) (l1:List ByteArray):Option (Bool):=if (l0.length:Int)=(l1.length:Int) then (bu.l0 k l0 l1 (l0.length:Int) 0) else (some false)
theorem bu.ey:∀ k,(∀ y0 y1 y2 y3,eZ (bu.l0 k y0 y1 y2 y3) (bu.l0 (k + 1) y0 y1 y2 y3))
 | 0=>fun _ _ _ _ r h=>by simp [bu.l0] at h
 |k + 1=>by
  have mH:=bu.ey k
  ·intro y0 y1 y2 y3
   unfold bu.l0
   repeat' (with_reducible first|exact mH _ _ _ _|exact eZ.refl _|refine eZ.ite ?_ ?_)
theorem bu.mono:∀ a0 a1 k,eZ (bu.f k a0 a1) (bu.f (k + 1) a0 a1):=by
 intro a0 a1 k
 have mH:=bu.ey k
 unfold bu.f
 repeat' (with_reducible first|exact mH _ _ _ _|exact eZ.refl _|refine eZ.ite ?_ ?_)
theorem bu.calls (k:Nat) (A0:Option Addr) (c0:Nat) (l0:List ByteArray) (A1:Option Addr) (c1:Nat) (l1:List ByteArray) (r:Bool) (w:World) (nK:Kd.C Kd.string w A0 l0.length l0) (hc0:l0.length≤c0) (hr1:Kd.C Kd.string w A1 l1.length l1) (hc1:l1.length≤c1) (h:bu.f k l0 l1=some r):
 Calls Tryz.prog 114 #[.slice A0 l0.length c0,.slice A1 l1.length c1] w fun e w'=>e= .returned (.bool r)∧iy w w':=by
 have q9:=ah.mk nK
 have Fy:=ah.mk hc0
 clear nK hc0
 have FH:=ah.mk hr1
 have HC1:=ah.mk hc1
 clear hr1 hc1
 have H:(if (l0.length:Int)=(l1.length:Int) then (bu.l0 k l0 l1 (l0.length:Int) 0) else (some false))=some r:=h
 clear h
 by_cases c3:(l0.length:Int)=(l1.length:Int)
 ·rw [if_pos c3] at H
  have ny:=beq_iff_eq.mpr c3
  have xX:=bne_eq_false_iff_eq.mpr c3
  have RB:(l0.length == l1.length)=true:=by (simp at c3 ⊢;omega)
  clear c3
  have H':=ah.mk H
  clear H
  go_enter Tryz.func114,Tryz.ntmps114
  go_wp2
  repeat (go_quiet (fail);skip)
  go_loopg [13] k (fun kq v13 w'=>∃ (bz:Int),v13= .int .i64 bz∧ah (bu.l0 kq l0 l1 (l0.length:Int) bz=some r)∧ah (kq≤k)∧iy w w')
  case atStart=>exact ⟨(0),(by rfl),H',⟨Nat.le_refl _⟩,mB⟩
  case round=>
   clear H'
   obtain ⟨bz,rfl,HA,qi,⟨m1,rfl⟩⟩:=hrel
   cases gk with
   |zero=>exact absurd HA.out (by simp [bu.l0])
   |succ k1=>
    have H:=HA.out
    clear HA
    simp only [bu.l0] at H
    by_cases c4:bz < (l0.length:Int)
    ·rw [if_pos c4] at H
     have mQ:=decide_eq_true c4
     clear c4
     obtain ⟨c5,H⟩:=lO H
     have p8:=decide_eq_true c5
     clear c5
     obtain ⟨c6,H⟩:=lO H
     have zH:=decide_eq_true c6
     clear c6
     obtain ⟨c7,H⟩:=lO H
     have E3:=decide_eq_true c7
     clear c7
     by_cases c8:(nu ByteArray.empty l0 bz).toList=(nu ByteArray.empty l1 bz).toList
     ·rw [if_pos c8] at H
      have Ax:=beq_iff_eq.mpr c8
      have Mo:=bne_eq_false_iff_eq.mpr c8
      clear c8
      have H':=ah.mk H
      clear H
      have M9: 0≤(bz:Int):=of_decide_eq_true cj
      have Na:bz < (l0.length:Int):=of_decide_eq_true cj
      obtain ⟨akP,aem,aak⟩:=Kd.j5 q9.out bz M9 Na
      cases aem
      replace M9:=eq_true M9
      replace Na:=eq_true Na
      have Nb: 0≤(bz:Int):=of_decide_eq_true cj
      have Nc:bz < (l1.length:Int):=of_decide_eq_true cj
      obtain ⟨akQ,aen,aal⟩:=Kd.j5 FH.out bz Nb Nc
      cases aen
      replace Nb:=eq_true Nb
      replace Nc:=eq_true Nc
      go_wp2
      repeat (go_quiet (fail);try go_wp2)
      go_roundg k1
      case measure=>have:=qi.out;omega
      case rel=>exact ⟨(wrap64 (bz + 1)),(by rfl),H',⟨lu⟩,kQ⟩
     ·rw [if_neg c8] at H
      have Ax:=beq_eq_false_iff_ne.mpr c8
      have Mo:=bne_iff_ne.mpr c8
      obtain rfl:=Option.some.inj H
      have M9: 0≤(bz:Int):=of_decide_eq_true cj
      have Na:bz < (l0.length:Int):=of_decide_eq_true cj
      obtain ⟨akP,aem,aak⟩:=Kd.j5 q9.out bz M9 Na
      cases aem
      replace M9:=eq_true M9
      replace Na:=eq_true Na
      have Nb: 0≤(bz:Int):=of_decide_eq_true cj
      have Nc:bz < (l1.length:Int):=of_decide_eq_true cj
      obtain ⟨akQ,aen,aal⟩:=Kd.j5 FH.out bz Nb Nc
      cases aen
      replace Nb:=eq_true Nb
      replace Nc:=eq_true Nc
      go_wp2
      repeat (go_quiet (fail);try go_wp2)
      go_ret
      exact ⟨by rfl,kQ⟩
    ·rw [if_neg c4] at H
     have mQ:=decide_eq_false c4
     clear c4
     obtain rfl:=Option.some.inj H
     go_wp2
     repeat (go_quiet (fail);skip)
     go_ret
     exact ⟨by rfl,kQ⟩
 ·rw [if_neg c3] at H
  have ny:=beq_eq_false_iff_ne.mpr c3
  have xX:=bne_iff_ne.mpr c3
  have RB:(l0.length == l1.length)=false:=by (simp at c3 ⊢;omega)
  obtain rfl:=Option.some.inj H
  go_enter Tryz.func114,Tryz.ntmps114
  go_wp2
  repeat (go_quiet (fail);skip)
  go_ret
  exact ⟨by rfl,mB⟩
def bk.l0:Nat→List (jM)→List (jM)→Int→Int→Option (Bool)
 | 0,_,_,_,_ =>none
 |k + 1,x0,x1,ym,pG=>if pG < ym then (if 0≤pG then (if pG < (x0.length:Int) then (if pG < (x1.length:Int) then (if ((!((((bM x0 pG).f0.f0).toList) == (((bM x1 pG).f0.f0).toList)) || (!((((bM x0 pG).f0.f1).toList) == (((bM x1 pG).f0.f1).toList)) || (!(((bM x0 pG).f0.f2) == ((bM x1 pG).f0.f2))))) || (!(((bM x0 pG).f1) == ((bM x1 pG).f1)) || (!(((bM x0 pG).f2) == ((bM x1 pG).f2)) || (!(((bM x0 pG).f3) == ((bM x1 pG).f3))))))=true then (some false) else (bk.l0 k x0 x1 ym (wrap64 (pG + 1)))) else (none)) else (none)) else (none)) else (some true)
def bk.f (k:Nat) (l0:List (jM)) (l1:List (jM)):Option (Bool):=if (l0.length:Int)=(l1.length:Int) then (bk.l0 k l0 l1 (l0.length:Int) 0) else (some false)
theorem bk.ey:∀ k,(∀ y0 y1 y2 y3,eZ (bk.l0 k y0 y1 y2 y3) (bk.l0 (k + 1) y0 y1 y2 y3))
 | 0=>fun _ _ _ _ r h=>by simp [bk.l0] at h
 |k + 1=>by
  have mH:=bk.ey k
  ·intro y0 y1 y2 y3
   unfold bk.l0
   repeat' (with_reducible first|exact mH _ _ _ _|exact eZ.refl _|refine eZ.ite ?_ ?_)
theorem bk.mono:∀ a0 a1 k,eZ (bk.f k a0 a1) (bk.f (k + 1) a0 a1):=by
 intro a0 a1 k
 have mH:=bk.ey k
 unfold bk.f
 repeat' (with_reducible first|exact mH _ _ _ _|exact eZ.refl _|refine eZ.ite ?_ ?_)
theorem bk.calls (k:Nat) (A0:Option Addr) (c0:Nat) (l0:List (jM)) (A1:Option Addr) (c1:Nat) (l1:List (jM)) (r:Bool) (w:World) (nK:Kd.C sM w A0 l0.length l0) (hc0:l0.length≤c0) (hr1:Kd.C sM w A1 l1.length l1) (hc1:l1.length≤c1) (h:bk.f k l0 l1=some r):
 Calls Tryz.prog 115 #[.slice A0 l0.length c0,.slice A1 l1.length c1] w fun e w'=>e= .returned (.bool r)∧iy w w':=by
 have ME:=Tryz.underlying37
 have q9:=ah.mk nK
 have Fy:=ah.mk hc0
 clear nK hc0
 have FH:=ah.mk hr1
 have HC1:=ah.mk hc1
 clear hr1 hc1
 have H:(if (l0.length:Int)=(l1.length:Int) then (bk.l0 k l0 l1 (l0.length:Int) 0) else (some false))=some r:=h
 clear h
 by_cases c3:(l0.length:Int)=(l1.length:Int)
 ·rw [if_pos c3] at H
  have ny:=beq_iff_eq.mpr c3
  have xX:=bne_eq_false_iff_eq.mpr c3
  have RB:(l0.length == l1.length)=true:=by (simp at c3 ⊢;omega)
  clear c3
  have H':=ah.mk H
  clear H
  go_enter Tryz.func115,Tryz.ntmps115
  go_wp2
  repeat (go_quiet (fail);skip)
  go_loopg [13] k (fun kq v13 w'=>∃ (bz:Int),v13= .int .i64 bz∧ah (bk.l0 kq l0 l1 (l0.length:Int) bz=some r)∧ah (kq≤k)∧iy w w')
  case atStart=>exact ⟨(0),(by rfl),H',⟨Nat.le_refl _⟩,mB⟩
  case round=>
   clear H'
   obtain ⟨bz,rfl,HA,qi,⟨m1,rfl⟩⟩:=hrel
   cases gk with
   |zero=>exact absurd HA.out (by simp [bk.l0])
   |succ k1=>
    have H:=HA.out
    clear HA
    simp only [bk.l0] at H
    by_cases c4:bz < (l0.length:Int)
    ·rw [if_pos c4] at H
     have mQ:=decide_eq_true c4
     clear c4
     obtain ⟨c5,H⟩:=lO H
     have p8:=decide_eq_true c5
     clear c5
     obtain ⟨c6,H⟩:=lO H
     have zH:=decide_eq_true c6
     clear c6
     obtain ⟨c7,H⟩:=lO H
     have E3:=decide_eq_true c7
     clear c7
     by_cases c8:((!((((bM l0 bz).f0.f0).toList) == (((bM l1 bz).f0.f0).toList)) || (!((((bM l0 bz).f0.f1).toList) == (((bM l1 bz).f0.f1).toList)) || (!(((bM l0 bz).f0.f2) == ((bM l1 bz).f0.f2))))) || (!(((bM l0 bz).f1) == ((bM l1 bz).f1)) || (!(((bM l0 bz).f2) == ((bM l1 bz).f2)) || (!(((bM l0 bz).f3) == ((bM l1 bz).f3))))))=true
     ·rw [if_pos c8] at H
      have Ax:((!((((bM l0 bz).f0.f0).toList) == (((bM l1 bz).f0.f0).toList)) || (!((((bM l0 bz).f0.f1).toList) == (((bM l1 bz).f0.f1).toList)) || (!(((bM l0 bz).f0.f2) == ((bM l1 bz).f0.f2))))) || (!(((bM l0 bz).f1) == ((bM l1 bz).f1)) || (!(((bM l0 bz).f2) == ((bM l1 bz).f2)) || (!(((bM l0 bz).f3) == ((bM l1 bz).f3))))))=true:=c8
      clear c8
      obtain rfl:=Option.some.inj H
      have Nf: 0≤(bz:Int):=of_decide_eq_true cj
      have Ng:bz < (l0.length:Int):=of_decide_eq_true cj
      obtain ⟨akR,aeo,aam,aan,aao,aap,aaq,aar⟩:=nQ q9.out bz Nf Ng
      cases aeo
      replace Nf:=eq_true Nf
      replace Ng:=eq_true Ng
      have Nh: 0≤(bz:Int):=of_decide_eq_true cj
      have Ni:bz < (l1.length:Int):=of_decide_eq_true cj
      obtain ⟨akS,aep,aas,aat,aau,aav,aaw,aax⟩:=nQ FH.out bz Nh Ni
      cases aep
      replace Nh:=eq_true Nh
      replace Ni:=eq_true Ni
      go_wp2
      repeat (go_quiet (fail);try go_wp2)
      go_ret
      exact ⟨by rfl,kQ⟩
     ·rw [if_neg c8] at H
      have Ax:((!((((bM l0 bz).f0.f0).toList) == (((bM l1 bz).f0.f0).toList)) || (!((((bM l0 bz).f0.f1).toList) == (((bM l1 bz).f0.f1).toList)) || (!(((bM l0 bz).f0.f2) == ((bM l1 bz).f0.f2))))) || (!(((bM l0 bz).f1) == ((bM l1 bz).f1)) || (!(((bM l0 bz).f2) == ((bM l1 bz).f2)) || (!(((bM l0 bz).f3) == ((bM l1 bz).f3))))))=false:=by simpa using c8
      clear c8
      have H':=ah.mk H
      clear H
      have Nf: 0≤(bz:Int):=of_decide_eq_true cj
      have Ng:bz < (l0.length:Int):=of_decide_eq_true cj
      obtain ⟨akR,aeo,aam,aan,aao,aap,aaq,aar⟩:=nQ q9.out bz Nf Ng
      cases aeo
      replace Nf:=eq_true Nf
      replace Ng:=eq_true Ng
      have Nh: 0≤(bz:Int):=of_decide_eq_true cj
      have Ni:bz < (l1.length:Int):=of_decide_eq_true cj
      obtain ⟨akS,aep,aas,aat,aau,aav,aaw,aax⟩:=nQ FH.out bz Nh Ni
      cases aep
      replace Nh:=eq_true Nh
      replace Ni:=eq_true Ni
      go_wp2
      repeat (go_quiet (fail);try go_wp2)
      go_roundg k1
      case measure=>have:=qi.out;omega
      case rel=>exact ⟨(wrap64 (bz + 1)),(by rfl),H',⟨lu⟩,kQ⟩
    ·rw [if_neg c4] at H
     have mQ:=decide_eq_false c4
     clear c4
     obtain rfl:=Option.some.inj H
     go_wp2
     repeat (go_quiet (fail);skip)
     go_ret
     exact ⟨by rfl,kQ⟩
 ·rw [if_neg c3] at H
  have ny:=beq_eq_false_iff_ne.mpr c3
  have xX:=bne_iff_ne.mpr c3
  have RB:(l0.length == l1.length)=false:=by (simp at c3 ⊢;omega)
  obtain rfl:=Option.some.inj H
  go_enter Tryz.func115,Tryz.ntmps115
  go_wp2
  repeat (go_quiet (fail);skip)
  go_ret
  exact ⟨by rfl,mB⟩
end Go.Proofs.YtbjjaaodfbjkfaaGreatDoor.mU
