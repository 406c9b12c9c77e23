import Derived.Test.YtbjjaaodfbjkfaaGreatDoorQQux2
import Derived.Test.YtbjjaaodfbjkfaaGreatDoorQQux11
set_option maxHeartbeats 8000000
set_option maxRecDepth 100000
namespace Go.Proofs.YtbjjaaodfbjkfaaGreatDoor.ow
open Go.RowKit Go.Proofs.YtbjjaaodfbjkfaaGreatDoor.zi Go.Proofs.ak.bY Go.Proofs.ak.dU Go.Proofs.ak.dJ
attribute [local go_sem] jt ju kH kI iw iy jv jw
set_option linter.unusedVariables false
set_option linter.unusedSimpArgs false
attribute [local go_sem high] aeS
def dI.l0:Nat→List Int→Int→Int→Option (List Int)
 | 0,_,_,_ =>none
 |k + 1,x0,x1,x5=>if x5≥0 then (if 0≤(wrap64 (8 * x5)) then (if x0.length < 140737488355328 then (dI.l0 k (x0 ++ [(shr .i64 x1 (wrap64 (8 * x5))) % 256]) x1 (wrap64 (x5 - 1))) else (none)) else (none)) else (some x0)
def dI.f (k:Nat) (l0:List Int) (a1:Int):Option (List Int):=dI.l0 k l0 a1 5
theorem dI.eY:∀ k,(∀ y0 y1 y2,fP (dI.l0 k y0 y1 y2) (dI.l0 (k + 1) y0 y1 y2))
 | 0=>fun _ _ _ r h=>by simp [dI.l0] at h
 |k + 1=>by
  have nY:=dI.eY k
  ·intro y0 y1 y2
   unfold dI.l0
   repeat' (with_reducible first|exact nY _ _ _|exact fP.refl _|refine fP.ite ?_ ?_)
theorem dI.mono:∀ a0 a1 k,fP (dI.f k a0 a1) (dI.f (k + 1) a0 a1):=by
 intro a0 a1 k
 have nY:=dI.eY k
 unfold dI.f
 repeat' (with_reducible exact nY _ _ _)
theorem dI.calls (k:Nat) (P0_:Nat→Prop) (Ot:Value) (l0:List Int) (a1:Int) (r:List Int) (w0 w:World) (hB:Below w0.heap.size w0 w) (ho0:Kd.R (Kd.int .u8) 5 w w0.heap.size P0_ Ot l0) (h:dI.f k l0 a1=some r):
 Calls Tryz.prog 62 #[Ot,.int .i64 a1] w fun e w'=>∃ ER:Value,e= .returned (ER)∧Kd.R (Kd.int .u8) 5 w' w0.heap.size (fun k_ =>(P0_ k_∨w.heap.size≤k_)) ER r∧Below w0.heap.size w0 w'∧Kept w w' (fun k_ =>P0_ k_):=by
 have HO0:=ah.mk (show Kd.R (Kd.int .u8) 5 w w0.heap.size (fun k_ =>(P0_ k_∨w.heap.size≤k_)) Ot l0 from Kd.cB ho0 (fun k_ hk=>(.inl hk)))
 have HK:=ah.mk (Kept.refl w (fun k_ =>P0_ k_))
 have HW0:=ah.mk hB.size
 have HB:=ah.mk hB
 clear hB
 have H:(dI.l0 k l0 a1 5)=some r:=h
 clear h
 have H':=ah.mk H
 clear H
 go_enter Tryz.func62,Tryz.ntmps62
 go_wp2
 go_loopg [0,5] k (fun kq v0 v5 w'=>∃ (XY:List Int) (zl:Int),v5= .int .i64 zl∧ah (dI.l0 kq XY a1 zl=some r)∧ah (kq≤k)∧ah (Kd.R (Kd.int .u8) 5 w' w0.heap.size (fun k_ =>(P0_ k_∨w.heap.size≤k_)) v0 XY)∧ah (Kept w w' (fun k_ =>P0_ k_))∧ah (Below w0.heap.size w0 w'))
 case atStart=>exact ⟨(l0),(5),(by rfl),H',⟨Nat.le_refl _⟩,⟨by exact HO0.out⟩,⟨kU⟩,⟨aI⟩⟩
 case round=>
  clear H'
  obtain ⟨XY,zl,rfl,HA,oI,acJ,HK,HB⟩:=hrel
  cases gk with
  |zero=>exact absurd HA.out (by simp [dI.l0])
  |succ k1=>
   have H:=HA.out
   clear HA
   simp only [dI.l0] at H
   by_cases c3:zl≥0
   ·rw [if_pos c3] at H
    have nT:decide (0≤zl)=true:=decide_eq_true c3
    clear c3
    obtain ⟨ji4,anm⟩:∃ j_:Int,(wrap64 (8 * zl))=j_ :=⟨_,rfl⟩
    (rw [anm] at H)
    have aF6:(IntKind.i64.wrap (8 * zl))=ji4:=(aY _).trans anm
    obtain ⟨c5,H⟩:=lg H
    have qu:=eq_true c5
    have N6:=decide_eq_true c5
    clear c5
    obtain ⟨ji6,ahf⟩:∃ j_:Int,(shr .i64 a1 (ji4))=j_ :=⟨_,rfl⟩
    (rw [ahf] at H)
    have aF7:(a1 / 2 ^ min (ji4).toNat 64)=ji6:=ahf
    have aF8:(ji4)≤64→(a1 / 2 ^ (ji4).toNat)=ji6:=UL ahf
    obtain ⟨c7,H⟩:=lg H
    have aDs:=ah.mk c7
    clear c7
    obtain ⟨ano,XZ⟩:∃ y_:List Int,y_=(XY ++ [(ji6) % 256]):=⟨_,rfl⟩
    replace H:(dI.l0 k1 ano a1 (wrap64 (zl - 1)))=some r:=by (rw [XZ];with_reducible exact H)
    have anp:=ah.mk XZ
    clear XZ
    have H':=ah.mk H
    clear H
    go_wp2_with (((with_reducible refine mZ (b:= .append) (xs:=#[.tmp 10,.tmp 16]) rfl ?_);at_builtin;refine Kd.su (Kd.int .u8) (w0:=w0) w0.heap.size rfl (.tmp 10) (.tmp 16) 22 5 (.int .u8 0) 1 rfl Tryz.underlying22 aeG rfl bC aA u0 XY ((ji6) % 256) [.int .u8 ((ji6) % 256)] (fun k_ =>(P0_ k_∨w.heap.size≤k_)) (fun _ =>False) rfl rfl ?aP (fun _ hk=>hk.elim) ?aF ?aO ?aB ?aS ?aL ?_;(case aP=>exact rfl);(case aB=>exact aI);(case aF=>exact (fun k_ hk=>(.inr (Nat.le_trans (by exact HK.out.1) hk))));(case aO=>exact (by exact acJ.out));(case aS=>exact (bV aI));(case aL=>have:=aDs.out;omega);intro aJ0 w8 ho hb hg hat;rw [← anp.out] at ho;replace HB:=ah.mk (hb);replace HK:=ah.mk (Kept.LH (S:=(fun k_ =>P0_ k_)) hg kU (fun k_ e_ =>(acJ.out.1 k_ e_)));have anq:=ah.mk (ho);clear acJ;clear ho hb hg hat))
    go_roundg k1
    case measure=>have:=oI.out;omega
    case rel=>exact ⟨(ano),(wrap64 (zl - 1)),(by rfl),H',⟨lS⟩,⟨by exact anq.out⟩,⟨kU⟩,⟨aI⟩⟩
   ·rw [if_neg c3] at H
    have nT:decide (0≤zl)=false:=decide_eq_false c3
    clear c3
    obtain rfl:=Option.some.inj H
    go_wp2
    go_ret
    exact ⟨_,by rfl,by exact acJ.out,aI,kU⟩
def gi.f (k:Nat) (bu:Int) (bX:Int) (cK:Int) (bL:Int) (bQ:Int) (b9:Bool) (bT:List ByteArray) (gX:ByteArray) (cg:ByteArray) (gY:Bool) (eI:List (jN)) (eJ:List Int) (fI:Int):Option (List Int×Int):=(cW.f k bu bX cK bL bQ b9 bT gX cg gY eI eJ fI).bind fun t273=>(if t273=true then (if bu=2 then (none) else (if bu=3 then ((dI.f k (([bu]:List Int)) bX).bind fun t277=>((dI.f k t277 cK).bind fun t280=>(some (t280,0)))) else (none))) else (none))
theorem gi.mono:∀ a0 a1 a2 a3 a4 a5 a6 a7 a8 a9 XR XS a12 k,fP (gi.f k a0 a1 a2 a3 a4 a5 a6 a7 a8 a9 XR XS a12) (gi.f (k + 1) a0 a1 a2 a3 a4 a5 a6 a7 a8 a9 XR XS a12):=by
 intro a0 a1 a2 a3 a4 a5 a6 a7 a8 a9 XR XS a12 k
 unfold gi.f
 repeat' (with_reducible first|exact dI.mono _ _ _|exact cW.mono _ _ _ _ _ _ _ _ _ _ _ _ _ _|exact fP.refl _|refine fP.ite ?_ ?_|refine fP.bind ?_ (fun _ =>?_))
def gi.T9:Bool×List (List Nat×List Nat):=(true,[([],[]),([],[]),([1],[1]),([0,2],[0,2]),([],[]),([4],[4]),([3,5,3],[3,5]),([6,6,0,1,2,3,4,5,6],[6]),([7,0,1,2,3,4,5,6,7],[])])
def gi.B9:List Nat:=[0,0,2,7,0,16,63,127,255]
theorem gi.aDt:qT .any (opsOf Tryz.f21 9)=gi.T9:=by kernel_rfl
theorem gi.anr:qM gi.T9.2 gi.B9=true:=by kernel_rfl
theorem gi.calls (k:Nat) (bu:Int) (bX:Int) (cK:Int) (bL:Int) (bQ:Int) (b9:Bool) (dA:Option Addr) (dw:Nat) (bT:List ByteArray) (gX:ByteArray) (cg:ByteArray) (gY:Bool) (iV:Option Addr) (iW:Nat) (eI:List (jN)) (iX:Option Addr) (iY:Nat) (eJ:List Int) (fI:Int) (r1:List Int) (r2:Int) (w:World) (oc:Kd.C Kd.string w dA bT.length bT) (oG:bT.length≤dw) (Fg:Kd.C sN w iV eI.length eI) (Fh:eI.length≤iW) (Fi:Kd.C (Kd.int .u8) w iX eJ.length eJ) (Fj:eJ.length≤iY) (hG:bB w) (h:gi.f k bu bX cK bL bQ b9 bT gX cg gY eI eJ fI=some (r1,r2)):
 Calls Tryz.prog 21 #[.agg #[.int .u8 bu,.int .i64 bX,.int .i64 cK,.int .i64 bL,.int .i64 bQ,.bool b9,.slice dA bT.length dw,.string gX,.string cg,.bool gY,.slice iV eI.length iW,.slice iX eJ.length iY,.int .i64 fI]] w fun e w'=>∃ ER:Value,e= .returned (.tuple #[ER,.int .i64 r2])∧Kd.R (Kd.int .u8) 5 w' w.heap.size (fun _ =>True) ER r1∧Below w.heap.size w w':=by
 have ag2:=Tryz.underlying46
 have CM:=Tryz.underlying34
 have Zn:=Tryz.underlying31
 have LX:=Tryz.underlying37
 have LW:=Tryz.underlying29
 have mQ:=ah.mk oc
 have nW:=ah.mk oG
 clear oc oG
 have vR:=ah.mk Fg
 have vS:=ah.mk Fh
 clear Fg Fh
 have vT:=ah.mk Fi
 have vU:=ah.mk Fj
 clear Fi Fj
 have HB:=ah.mk (Below.refl w.heap.size w)
 have HG:=ah.mk hG
 clear hG
 have H:((cW.f k bu bX cK bL bQ b9 bT gX cg gY eI eJ fI).bind fun t273=>(if t273=true then (if bu=2 then (none) else (if bu=3 then ((dI.f k (([bu]:List Int)) bX).bind fun t277=>((dI.f k t277 cK).bind fun t280=>(some (t280,0)))) else (none))) else (none)))=some (r1,r2):=h
 clear h
 obtain ⟨t273,A2,H⟩:=bd_ H
 by_cases c3:t273=true
 ·subst c3
  rw [if_pos rfl] at H
  obtain ⟨X0,X3⟩:∃ y_:List Int,y_=(([bu]:List Int)):=⟨_,rfl⟩
  replace H:(if bu=2 then (none) else (if bu=3 then ((dI.f k X0 bX).bind fun t277=>((dI.f k t277 cK).bind fun t280=>(some (t280,0)))) else (none)))=some (r1,r2):=by (rw [X3];with_reducible exact H)
  have ant:=ah.mk X3
  clear X3
  obtain ⟨c4,H⟩:=aCk H
  have ng:=beq_eq_false_iff_ne.mpr c4
  have BC:=bne_iff_ne.mpr c4
  obtain ⟨c5,H⟩:=lg H
  have qu:=beq_iff_eq.mpr c5
  have N6:=bne_eq_false_iff_eq.mpr c5
  clear c5
  obtain ⟨t277,A6,H⟩:=bd_ H
  obtain ⟨t280,A7,H⟩:=bd_ H
  simp only [Option.some.injEq,Prod.mk.injEq] at H
  obtain ⟨rfl,rfl⟩:=H
  go_enter Tryz.func21,Tryz.ntmps21
  try go_wp2_with (first|((with_reducible refine bw (N:=1) rfl ?_);refine bA ?hg (N:=1) ?hd (cs:=#[.int .u8 bu,.int .i64 bX,.int .i64 cK,.int .i64 bL,.int .i64 bQ,.bool b9,.slice dA bT.length dw,.string gX,.string cg,.bool gY,.slice iV eI.length iW,.slice iX eJ.length iY,.int .i64 fI]) (t:=46) ?hr ?_;(case hd=>rfl);(case hg=>rfl);(case hr=>(go_simp;done));intro gI hg w8 bH hb;have cE:=ah.mk (bH);have aF9:=ah.mk ((bG:w.heap.size≤gI));have aGa:=ah.mk ((bG:w.heap.size≤gI));replace HB:=ah.mk (av aI hb);clear hb bH hg;have BF:w8.cell? ⟨gI,0,none⟩=some (.int .u8 bu):=(af cE.out 0).trans rfl;have BG:w8.cell? ⟨gI,1,none⟩=some (.int .i64 bX):=(af cE.out 1).trans rfl;have Xq:w8.cell? ⟨gI,2,none⟩=some (.int .i64 cK):=(af cE.out 2).trans rfl;have agu:w8.cell? ⟨gI,3,none⟩=some (.int .i64 bL):=(af cE.out 3).trans rfl;have agv:w8.cell? ⟨gI,4,none⟩=some (.int .i64 bQ):=(af cE.out 4).trans rfl;have agw:w8.cell? ⟨gI,5,none⟩=some (.bool b9):=(af cE.out 5).trans rfl;have aDu:w8.cell? ⟨gI,6,none⟩=some (.slice dA bT.length dw):=(af cE.out 6).trans rfl;have aDv:w8.cell? ⟨gI,7,none⟩=some (.string gX):=(af cE.out 7).trans rfl;have aDw:w8.cell? ⟨gI,8,none⟩=some (.string cg):=(af cE.out 8).trans rfl;have aDx:w8.cell? ⟨gI,9,none⟩=some (.bool gY):=(af cE.out 9).trans rfl;have ayy:w8.cell? ⟨gI,10,none⟩=some (.slice iV eI.length iW):=(af cE.out 10).trans rfl;have ayz:w8.cell? ⟨gI,11,none⟩=some (.slice iX eJ.length iY):=(af cE.out 11).trans rfl;have ayA:w8.cell? ⟨gI,12,none⟩=some (.int .i64 fI):=(af cE.out 12).trans rfl;have BH:=aa cE.out 0;have BI:=aa cE.out 1;have Xr:=aa cE.out 2;have agx:=aa cE.out 3;have agy:=aa cE.out 4;have agz:=aa cE.out 5;have aDy:=aa cE.out 6;have aDz:=aa cE.out 7;have aDA:=aa cE.out 8;have aDB:=aa cE.out 9;have ayB:=aa cE.out 10;have ayC:=aa cE.out 11;have ayD:=aa cE.out 12)|((with_reducible refine bE (f:=58) rfl ?_);refine dg (some 9) rfl rfl Tryz.func58 au rfl #[.agg #[.int .u8 bu,.int .i64 bX,.int .i64 cK,.int .i64 bL,.int .i64 bQ,.bool b9,.slice dA bT.length dw,.string gX,.string cg,.bool gY,.slice iV eI.length iW,.slice iX eJ.length iY,.int .i64 fI]] rfl dM ?_;(with_reducible refine (cW.calls k bu bX cK bL bQ b9 _ _ bT gX cg gY _ _ eI _ _ eJ fI true _ ?bk ?bI ?cO ?ey ?gz ?gA ?ko A2.out).mono ?_);(case bk=>repeat (exact (Kd.bU mQ.out HB.out)));(case bI=>exact nW.out);(case cO=>repeat (exact (Kd.bU vR.out HB.out)));(case ey=>exact vS.out);(case gz=>repeat (exact (Kd.bU vT.out HB.out)));(case gA=>exact vU.out);(case ko=>exact bB.below HG.out aI);rintro e qw ⟨rfl,hb⟩;refine ⟨_,rfl,?_⟩;replace cE:=ah.mk (az (by exact cE.out) hb);replace HB:=ah.mk (av aI hb);(try clear hb);have aag:qw.cell? ⟨gI,0,none⟩=some (.int .u8 bu):=(af cE.out 0).trans rfl;have aah:qw.cell? ⟨gI,1,none⟩=some (.int .i64 bX):=(af cE.out 1).trans rfl;have aai:qw.cell? ⟨gI,2,none⟩=some (.int .i64 cK):=(af cE.out 2).trans rfl;have ayE:qw.cell? ⟨gI,3,none⟩=some (.int .i64 bL):=(af cE.out 3).trans rfl;have ayF:qw.cell? ⟨gI,4,none⟩=some (.int .i64 bQ):=(af cE.out 4).trans rfl;have ayG:qw.cell? ⟨gI,5,none⟩=some (.bool b9):=(af cE.out 5).trans rfl;have ayH:qw.cell? ⟨gI,6,none⟩=some (.slice dA bT.length dw):=(af cE.out 6).trans rfl;have ayI:qw.cell? ⟨gI,7,none⟩=some (.string gX):=(af cE.out 7).trans rfl;have ayJ:qw.cell? ⟨gI,8,none⟩=some (.string cg):=(af cE.out 8).trans rfl;have ayK:qw.cell? ⟨gI,9,none⟩=some (.bool gY):=(af cE.out 9).trans rfl;have anu:qw.cell? ⟨gI,10,none⟩=some (.slice iV eI.length iW):=(af cE.out 10).trans rfl;have anv:qw.cell? ⟨gI,11,none⟩=some (.slice iX eJ.length iY):=(af cE.out 11).trans rfl;have anw:qw.cell? ⟨gI,12,none⟩=some (.int .i64 fI):=(af cE.out 12).trans rfl;have aaj:=aa cE.out 0;have aak:=aa cE.out 1;have aal:=aa cE.out 2;have ayL:=aa cE.out 3;have ayM:=aa cE.out 4;have ayN:=aa cE.out 5;have ayO:=aa cE.out 6;have ayP:=aa cE.out 7;have ayQ:=aa cE.out 8;have ayR:=aa cE.out 9;have anx:=aa cE.out 10;have anz:=aa cE.out 11;have anA:=aa cE.out 12)|((with_reducible refine bw (N:=13) rfl ?_);refine Kd.oa (Kd.int .u8) _ 5 ?hg (N:=13) ?hd (xs:=([bu]:List Int)) (inner:=[.int .u8 bu]) (ok:=fun _ =>True) (qK:=fun _ =>True) ?hr ?hp (fun _ hk=>hk) trivial (Below.refl _ _) (Nat.le_refl _) dz ?_;(case hd=>rfl);(case hg=>rfl);(case hr=>(go_simp;done));(case hp=>exact (eo.one (show Kd.M (Kd.int .u8) _ _ _ bu [.int .u8 bu] from rfl) (eo.none _ _)));intro aJ1 BJ ahg hb sP iC;clear sP iC;(rw [← ant.out] at ahg);have CB:=ah.mk (Kd.dY ahg (bV aI));replace cE:=ah.mk (az (by exact cE.out) hb);replace HB:=ah.mk (av aI hb);clear hb ahg;have Aa:BJ.cell? ⟨gI,0,none⟩=some (.int .u8 bu):=(af cE.out 0).trans rfl;have Ab:BJ.cell? ⟨gI,1,none⟩=some (.int .i64 bX):=(af cE.out 1).trans rfl;have Dy:BJ.cell? ⟨gI,2,none⟩=some (.int .i64 cK):=(af cE.out 2).trans rfl;have Dz:BJ.cell? ⟨gI,3,none⟩=some (.int .i64 bL):=(af cE.out 3).trans rfl;have DA:BJ.cell? ⟨gI,4,none⟩=some (.int .i64 bQ):=(af cE.out 4).trans rfl;have DB:BJ.cell? ⟨gI,5,none⟩=some (.bool b9):=(af cE.out 5).trans rfl;have IJ:BJ.cell? ⟨gI,6,none⟩=some (.slice dA bT.length dw):=(af cE.out 6).trans rfl;have IK:BJ.cell? ⟨gI,7,none⟩=some (.string gX):=(af cE.out 7).trans rfl;have IL:BJ.cell? ⟨gI,8,none⟩=some (.string cg):=(af cE.out 8).trans rfl;have ayS:BJ.cell? ⟨gI,9,none⟩=some (.bool gY):=(af cE.out 9).trans rfl;have anB:BJ.cell? ⟨gI,10,none⟩=some (.slice iV eI.length iW):=(af cE.out 10).trans rfl;have anC:BJ.cell? ⟨gI,11,none⟩=some (.slice iX eJ.length iY):=(af cE.out 11).trans rfl;have anD:BJ.cell? ⟨gI,12,none⟩=some (.int .i64 fI):=(af cE.out 12).trans rfl;have Ac:=aa cE.out 0;have Ad:=aa cE.out 1;have DC:=aa cE.out 2;have DD:=aa cE.out 3;have DF:=aa cE.out 4;have DG:=aa cE.out 5;have IM:=aa cE.out 6;have IP:=aa cE.out 7;have IQ:=aa cE.out 8;have ayT:=aa cE.out 9;have anE:=aa cE.out 10;have anF:=aa cE.out 11;have anG:=aa cE.out 12))
  have jJ:=ah.mk (Kd.afD CB.out)
  have jK:=ah.mk (iR cE.out)
  have lV:=ah.mk (gG HB.out)
  clear CB
  clear cE
  clear HB
  have CB:=jJ
  have cE:=jK
  have HB:=lV
  clear jJ jK lV
  obtain ⟨N2,N3,Xa⟩:=Kd.dF CB.out
  (subst Xa)
  refine lU (n:=9) (S:=fun w'=>w'.cell? ⟨gI,0,none⟩=some (.int .u8 bu)∧w'.cell? ⟨gI,1,none⟩=some (.int .i64 bX)∧w'.cell? ⟨gI,2,none⟩=some (.int .i64 cK)∧w'.cell? ⟨gI,3,none⟩=some (.int .i64 bL)∧w'.cell? ⟨gI,4,none⟩=some (.int .i64 bQ)∧w'.cell? ⟨gI,5,none⟩=some (.bool b9)∧w'.cell? ⟨gI,6,none⟩=some (.slice dA bT.length dw)∧w'.cell? ⟨gI,7,none⟩=some (.string gX)∧w'.cell? ⟨gI,8,none⟩=some (.string cg)∧w'.cell? ⟨gI,9,none⟩=some (.bool gY)∧w'.cell? ⟨gI,10,none⟩=some (.slice iV eI.length iW)∧w'.cell? ⟨gI,11,none⟩=some (.slice iX eJ.length iY)∧w'.cell? ⟨gI,12,none⟩=some (.int .i64 fI)) (ds:=[]) #[false,false,false,false,false,false,false,false,false] au (by rfl) (by rfl) ⟨(af cE.out 0).trans rfl,(af cE.out 1).trans rfl,(af cE.out 2).trans rfl,(af cE.out 3).trans rfl,(af cE.out 4).trans rfl,(af cE.out 5).trans rfl,(af cE.out 6).trans rfl,(af cE.out 7).trans rfl,(af cE.out 8).trans rfl,(af cE.out 9).trans rfl,(af cE.out 10).trans rfl,(af cE.out 11).trans rfl,(af cE.out 12).trans rfl⟩ (fun hHeld=>?_);refine lG gi.aDt gi.anr (fun dL sJ=>?_)
  generalize BJ.drew=wO at CB cE HB hHeld ⊢
  refine aQ (i:=0) (N:=some 31) #[true,false,false,false,false,false,false,false,false] rfl rfl (br dL.out au) (fun _ _ _ h=>h) (Or.inl ⟨by rfl,cJ⟩) rfl ?_
  refine aQ (i:=1) (N:=some 32) #[true,true,false,false,false,false,false,false,false] rfl rfl (br dL.out au) (fun _ _ _ h=>h) (Or.inl ⟨by rfl,cJ⟩) rfl ?_
  refine aQ (i:=4) (N:=some 35) #[true,true,false,false,true,false,false,false,false] rfl rfl (br dL.out au) (fun _ _ _ h=>h) (Or.inl ⟨by rfl,cJ⟩) rfl ?_
  refine gv (i:=2) (N:=some 33) #[true,true,true,false,true,false,false,false,false] rfl rfl (fK dL.out sJ.out au) (fun _ _ _ h=>h) (Or.inl ⟨by rfl,PL⟩) hHeld rfl ?_
  refine gv (i:=5) (N:=some 36) #[true,true,true,false,true,true,false,false,false] rfl rfl (fK dL.out sJ.out au) (fun _ _ _ h=>h) (Or.inl ⟨by rfl,PL⟩) hHeld rfl ?_
  refine pq (i:=3) (N:=some 34) #[true,true,true,true,true,true,false,false,false] rfl rfl (kF dL.out au) bC (fun K hK=>?_)
  refine mH Tryz.func62 au rfl #[.slice N2 X0.length N3,.int .i64 bX] (by rfl) rfl rfl dM ?_
  with_reducible refine (dI.calls k (fun k_ =>some k_=(.slice N2 X0.length N3:Value).ownBlock) (.slice N2 X0.length N3) X0 bX t277 w _ ?bk ?bI A6.out).mono ?_
  (case bk=>repeat ((with_reducible exact HB.out)))
  (case bI=>exact Kd.zU rfl CB.out)
  rintro e ud ⟨aJ2,rfl,ho0,hb,hkp⟩
  refine ⟨_,rfl,?_⟩
  have jJ:=ah.mk (EO (by exact cE.out) hkp (fun hs_ =>(fun e_ =>(Kd.vq CB.out cE.out bC) e_) hs_))
  have jK:=ah.mk (Kd.cB (ok':=fun k_ =>True) ho0 (fun k_ hk_ =>trivial))
  have lV:=ah.mk (hb)
  clear cE
  clear HB
  clear CB
  have cE:=jJ
  have Tv:=jK
  have HB:=lV
  clear jJ jK lV
  obtain ⟨XV,XW,ag5⟩:=Kd.dF Tv.out
  (subst ag5)
  refine hK.out _ _ ⟨(af cE.out 0).trans rfl,(af cE.out 1).trans rfl,(af cE.out 2).trans rfl,(af cE.out 3).trans rfl,(af cE.out 4).trans rfl,(af cE.out 5).trans rfl,(af cE.out 6).trans rfl,(af cE.out 7).trans rfl,(af cE.out 8).trans rfl,(af cE.out 9).trans rfl,(af cE.out 10).trans rfl,(af cE.out 11).trans rfl,(af cE.out 12).trans rfl⟩ (fun hHeld=>?_)
  clear hK K
  refine kX (a':=?_) ?_ ?_
  rotate_left
  ·show Act.put _ (some 34) _=_
   simp only [Act.put,List.setIfInBounds_toArray,List.set_cons_zero,List.set_cons_succ,aY,aZ]
   rfl
  refine pq (i:=6) (N:=some 37) #[true,true,true,true,true,true,true,false,false] rfl rfl (kF dL.out au) bC (fun K hK=>?_)
  refine mH Tryz.func62 au rfl #[.slice XV t277.length XW,.int .i64 cK] (by rfl) rfl rfl dM ?_
  with_reducible refine (dI.calls k (fun k_ =>some k_=(.slice XV t277.length XW:Value).ownBlock) (.slice XV t277.length XW) t277 cK t280 w _ ?bk ?bI A7.out).mono ?_
  (case bk=>repeat ((with_reducible exact HB.out)))
  (case bI=>exact Kd.zU rfl Tv.out)
  rintro e w19 ⟨aJ3,rfl,ho0,hb,hkp⟩
  refine ⟨_,rfl,?_⟩
  have jJ:=ah.mk (EO (by exact cE.out) hkp (fun hs_ =>(fun e_ =>(Kd.vq Tv.out cE.out bC) e_) hs_))
  have jK:=ah.mk (Kd.cB (ok':=fun k_ =>True) ho0 (fun k_ hk_ =>trivial))
  have lV:=ah.mk (hb)
  clear cE
  clear HB
  clear Tv
  have cE:=jJ
  have anH:=jK
  have HB:=lV
  clear jJ jK lV
  refine hK.out _ _ ⟨(af cE.out 0).trans rfl,(af cE.out 1).trans rfl,(af cE.out 2).trans rfl,(af cE.out 3).trans rfl,(af cE.out 4).trans rfl,(af cE.out 5).trans rfl,(af cE.out 6).trans rfl,(af cE.out 7).trans rfl,(af cE.out 8).trans rfl,(af cE.out 9).trans rfl,(af cE.out 10).trans rfl,(af cE.out 11).trans rfl,(af cE.out 12).trans rfl⟩ (fun hHeld=>?_)
  clear hK K
  refine kX (a':=?_) ?_ ?_
  rotate_left
  ·show Act.put _ (some 37) _=_
   simp only [Act.put,List.setIfInBounds_toArray,List.set_cons_zero,List.set_cons_succ,aY,aZ]
   rfl
  refine aQ (i:=7) (N:=some 2) #[true,true,true,true,true,true,true,true,false] rfl rfl (br dL.out au) (fun _ _ _ h=>h) (Or.inl ⟨by rfl,cJ⟩) rfl ?_
  refine aQ (i:=8) (N:=some 3) #[true,true,true,true,true,true,true,true,true] rfl rfl (br dL.out au) (fun _ _ _ h=>h) (Or.inl ⟨by rfl,cJ⟩) rfl ?_
  refine oU (o7 dL.out au) ?_
  try go_wp2
  go_ret2
  exact ⟨_,by rfl,by exact anH.out,aI⟩
 ·replace c3:=Bool.eq_false_iff.mpr c3
  subst c3
  rw [if_neg (show ¬ (false=true) by decide)] at H
  exact absurd H dz
def bP.l0:Nat→List ByteArray→List ByteArray→Int→Int→Option (Bool)
 | 0,_,_,_,_ =>none
 |k + 1,x0,x1,wQ,nX=>if nX < wQ then (if 0≤nX then (if nX < (x0.length:Int) then (if nX < (x1.length:Int) then (if (oQ ByteArray.empty x0 nX).toList=(oQ ByteArray.empty x1 nX).toList then (bP.l0 k x0 x1 wQ (wrap64 (nX + 1))) else (some false)) else (none)) else (none)) else (none)) else (some true)
def bP.f (k:Nat) (l0:List ByteArray) (l1:List ByteArray):Option (Bool):=if (l0.length:Int)=(l1.length:Int) then (bP.l0 k l0 l1 (l0.length:Int) 0) else (some false)
theorem bP.eY:∀ k,(∀ y0 y1 y2 y3,fP (bP.l0 k y0 y1 y2 y3) (bP.l0 (k + 1) y0 y1 y2 y3))
 | 0=>fun _ _ _ _ r h=>by simp [bP.l0] at h
 |k + 1=>by
  have nY:=bP.eY k
  ·intro y0 y1 y2 y3
   unfold bP.l0
   repeat' (with_reducible first|exact nY _ _ _ _|exact fP.refl _|refine fP.ite ?_ ?_)
theorem bP.mono:∀ a0 a1 k,fP (bP.f k a0 a1) (bP.f (k + 1) a0 a1):=by
 intro a0 a1 k
 have nY:=bP.eY k
 unfold bP.f
 repeat' (with_reducible first|exact nY _ _ _ _|exact fP.refl _|refine fP.ite ?_ ?_)
theorem bP.calls (k:Nat) (A0:Option Addr) (c0:Nat) (l0:List ByteArray) (A1:Option Addr) (c1:Nat) (l1:List ByteArray) (r:Bool) (w:World) (nZ:Kd.C Kd.string w A0 l0.length l0) (hc0:l0.length≤c0) (hr1:Kd.C Kd.string w A1 l1.length l1) (hc1:l1.length≤c1) (h:bP.f k l0 l1=some r):
 Calls Tryz.prog 114 #[.slice A0 l0.length c0,.slice A1 l1.length c1] w fun e w'=>e= .returned (.bool r)∧ia w w':=by
 have qN:=ah.mk nZ
 have Eg:=ah.mk hc0
 clear nZ hc0
 have Cy:=ah.mk hr1
 have HC1:=ah.mk hc1
 clear hr1 hc1
 have H:(if (l0.length:Int)=(l1.length:Int) then (bP.l0 k l0 l1 (l0.length:Int) 0) else (some false))=some r:=h
 clear h
 by_cases c3:(l0.length:Int)=(l1.length:Int)
 ·rw [if_pos c3] at H
  have nT:=beq_iff_eq.mpr c3
  have tZ:=bne_eq_false_iff_eq.mpr c3
  have Fa:(l0.length == l1.length)=true:=by (simp at c3 ⊢;omega)
  clear c3
  have H':=ah.mk H
  clear H
  go_enter Tryz.func114,Tryz.ntmps114
  go_wp2
  repeat (go_quiet (fail);skip)
  go_loopg [13] k (fun kq v13 w'=>∃ (bp:Int),v13= .int .i64 bp∧ah (bP.l0 kq l0 l1 (l0.length:Int) bp=some r)∧ah (kq≤k)∧ia w w')
  case atStart=>exact ⟨(0),(by rfl),H',⟨Nat.le_refl _⟩,mj⟩
  case round=>
   clear H'
   obtain ⟨bp,rfl,HA,oI,⟨m1,rfl⟩⟩:=hrel
   cases gk with
   |zero=>exact absurd HA.out (by simp [bP.l0])
   |succ k1=>
    have H:=HA.out
    clear HA
    simp only [bP.l0] at H
    by_cases c4:bp < (l0.length:Int)
    ·rw [if_pos c4] at H
     have ng:=decide_eq_true c4
     clear c4
     obtain ⟨c5,H⟩:=lg H
     have qu:=decide_eq_true c5
     clear c5
     obtain ⟨c6,H⟩:=lg H
     have xm:=decide_eq_true c6
     clear c6
     obtain ⟨c7,H⟩:=lg H
     have E1:=decide_eq_true c7
     clear c7
     by_cases c8:(oQ ByteArray.empty l0 bp).toList=(oQ ByteArray.empty l1 bp).toList
     ·rw [if_pos c8] at H
      have yB:=beq_iff_eq.mpr c8
      have Jy:=bne_eq_false_iff_eq.mpr c8
      clear c8
      have H':=ah.mk H
      clear H
      have Ou: 0≤(bp:Int):=of_decide_eq_true cL
      have Ov:bp < (l0.length:Int):=of_decide_eq_true cL
      obtain ⟨anJ,ahh,acK⟩:=Kd.kN qN.out bp Ou Ov
      cases ahh
      replace Ou:=eq_true Ou
      replace Ov:=eq_true Ov
      have Ow: 0≤(bp:Int):=of_decide_eq_true cL
      have Ox:bp < (l1.length:Int):=of_decide_eq_true cL
      obtain ⟨anK,ahi,acL⟩:=Kd.kN Cy.out bp Ow Ox
      cases ahi
      replace Ow:=eq_true Ow
      replace Ox:=eq_true Ox
      go_wp2
      repeat (go_quiet (fail);try go_wp2)
      go_roundg k1
      case measure=>have:=oI.out;omega
      case rel=>exact ⟨(wrap64 (bp + 1)),(by rfl),H',⟨lS⟩,jl⟩
     ·rw [if_neg c8] at H
      have yB:=beq_eq_false_iff_ne.mpr c8
      have Jy:=bne_iff_ne.mpr c8
      obtain rfl:=Option.some.inj H
      have Ou: 0≤(bp:Int):=of_decide_eq_true cL
      have Ov:bp < (l0.length:Int):=of_decide_eq_true cL
      obtain ⟨anJ,ahh,acK⟩:=Kd.kN qN.out bp Ou Ov
      cases ahh
      replace Ou:=eq_true Ou
      replace Ov:=eq_true Ov
      have Ow: 0≤(bp:Int):=of_decide_eq_true cL
      have Ox:bp < (l1.length:Int):=of_decide_eq_true cL
      obtain ⟨anK,ahi,acL⟩:=Kd.kN Cy.out bp Ow Ox
      cases ahi
      replace Ow:=eq_true Ow
      replace Ox:=eq_true Ox
      go_wp2
      repeat (go_quiet (fail);try go_wp2)
      go_ret
      exact ⟨by rfl,jl⟩
    ·rw [if_neg c4] at H
     have ng:=decide_eq_false c4
     clear c4
     obtain rfl:=Option.some.inj H
     go_wp2
     repeat (go_quiet (fail);skip)
     go_ret
     exact ⟨by rfl,jl⟩
 ·rw [if_neg c3] at H
  have nT:=beq_eq_false_iff_ne.mpr c3
  have tZ:=bne_iff_ne.mpr c3
  have Fa:(l0.length == l1.length)=false:=by (simp at c3 ⊢;omega)
  obtain rfl:=Option.some.inj H
  go_enter Tryz.func114,Tryz.ntmps114
  go_wp2
  repeat (go_quiet (fail);skip)
  go_ret
  exact ⟨by rfl,mj⟩
def bF.l0:Nat→List (jN)→List (jN)→Int→Int→Option (Bool)
 | 0,_,_,_,_ =>none
 |k + 1,x0,x1,wQ,nX=>if nX < wQ then (if 0≤nX then (if nX < (x0.length:Int) then (if nX < (x1.length:Int) then (if ((!((((bn x0 nX).f0.f0).toList) == (((bn x1 nX).f0.f0).toList)) || (!((((bn x0 nX).f0.f1).toList) == (((bn x1 nX).f0.f1).toList)) || (!(((bn x0 nX).f0.f2) == ((bn x1 nX).f0.f2))))) || (!(((bn x0 nX).f1) == ((bn x1 nX).f1)) || (!(((bn x0 nX).f2) == ((bn x1 nX).f2)) || (!(((bn x0 nX).f3) == ((bn x1 nX).f3))))))=true then (some false) else (bF.l0 k x0 x1 wQ (wrap64 (nX + 1)))) else (none)) else (none)) else (none)) else (some true)
def bF.f (k:Nat) (l0:List (jN)) (l1:List (jN)):Option (Bool):=if (l0.length:Int)=(l1.length:Int) then (bF.l0 k l0 l1 (l0.length:Int) 0) else (some false)
theorem bF.eY:∀ k,(∀ y0 y1 y2 y3,fP (bF.l0 k y0 y1 y2 y3) (bF.l0 (k + 1) y0 y1 y2 y3))
 | 0=>fun _ _ _ _ r h=>by simp [bF.l0] at h
 |k + 1=>by
  have nY:=bF.eY k
  ·intro y0 y1 y2 y3
   unfold bF.l0
   repeat' (with_reducible first|exact nY _ _ _ _|exact fP.refl _|refine fP.ite ?_ ?_)
theorem bF.mono:∀ a0 a1 k,fP (bF.f k a0 a1) (bF.f (k + 1) a0 a1):=by
 intro a0 a1 k
 have nY:=bF.eY k
 unfold bF.f
 repeat' (with_reducible first|exact nY _ _ _ _|exact fP.refl _|refine fP.ite ?_ ?_)
theorem bF.calls (k:Nat) (A0:Option Addr) (c0:Nat) (l0:List (jN)) (A1:Option Addr) (c1:Nat) (l1:List (jN)) (r:Bool) (w:World) (nZ:Kd.C sN w A0 l0.length l0) (hc0:l0.length≤c0) (hr1:Kd.C sN w A1 l1.length l1) (hc1:l1.length≤c1) (h:bF.f k l0 l1=some r):
 Calls Tryz.prog 115 #[.slice A0 l0.length c0,.slice A1 l1.length c1] w fun e w'=>e= .returned (.bool r)∧ia w w':=by
 have LX:=Tryz.underlying37
 have qN:=ah.mk nZ
 have Eg:=ah.mk hc0
 clear nZ hc0
 have Cy:=ah.mk hr1
 have HC1:=ah.mk hc1
 clear hr1 hc1
 have H:(if (l0.length:Int)=(l1.length:Int) then (bF.l0 k l0 l1 (l0.length:Int) 0) else (some false))=some r:=h
 clear h
 by_cases c3:(l0.length:Int)=(l1.length:Int)
 ·rw [if_pos c3] at H
  have nT:=beq_iff_eq.mpr c3
  have tZ:=bne_eq_false_iff_eq.mpr c3
  have Fa:(l0.length == l1.length)=true:=by (simp at c3 ⊢;omega)
  clear c3
  have H':=ah.mk H
  clear H
  go_enter Tryz.func115,Tryz.ntmps115
  go_wp2
  repeat (go_quiet (fail);skip)
  go_loopg [13] k (fun kq v13 w'=>∃ (bp:Int),v13= .int .i64 bp∧ah (bF.l0 kq l0 l1 (l0.length:Int) bp=some r)∧ah (kq≤k)∧ia w w')
  case atStart=>exact ⟨(0),(by rfl),H',⟨Nat.le_refl _⟩,mj⟩
  case round=>
   clear H'
   obtain ⟨bp,rfl,HA,oI,⟨m1,rfl⟩⟩:=hrel
   cases gk with
   |zero=>exact absurd HA.out (by simp [bF.l0])
   |succ k1=>
    have H:=HA.out
    clear HA
    simp only [bF.l0] at H
    by_cases c4:bp < (l0.length:Int)
    ·rw [if_pos c4] at H
     have ng:=decide_eq_true c4
     clear c4
     obtain ⟨c5,H⟩:=lg H
     have qu:=decide_eq_true c5
     clear c5
     obtain ⟨c6,H⟩:=lg H
     have xm:=decide_eq_true c6
     clear c6
     obtain ⟨c7,H⟩:=lg H
     have E1:=decide_eq_true c7
     clear c7
     by_cases c8:((!((((bn l0 bp).f0.f0).toList) == (((bn l1 bp).f0.f0).toList)) || (!((((bn l0 bp).f0.f1).toList) == (((bn l1 bp).f0.f1).toList)) || (!(((bn l0 bp).f0.f2) == ((bn l1 bp).f0.f2))))) || (!(((bn l0 bp).f1) == ((bn l1 bp).f1)) || (!(((bn l0 bp).f2) == ((bn l1 bp).f2)) || (!(((bn l0 bp).f3) == ((bn l1 bp).f3))))))=true
     ·rw [if_pos c8] at H
      have yB:((!((((bn l0 bp).f0.f0).toList) == (((bn l1 bp).f0.f0).toList)) || (!((((bn l0 bp).f0.f1).toList) == (((bn l1 bp).f0.f1).toList)) || (!(((bn l0 bp).f0.f2) == ((bn l1 bp).f0.f2))))) || (!(((bn l0 bp).f1) == ((bn l1 bp).f1)) || (!(((bn l0 bp).f2) == ((bn l1 bp).f2)) || (!(((bn l0 bp).f3) == ((bn l1 bp).f3))))))=true:=c8
      clear c8
      obtain rfl:=Option.some.inj H
      have Oy: 0≤(bp:Int):=of_decide_eq_true cL
      have Oz:bp < (l0.length:Int):=of_decide_eq_true cL
      obtain ⟨anL,ahj,acM,acN,acO,acP,acQ,acR⟩:=pz qN.out bp Oy Oz
      cases ahj
      replace Oy:=eq_true Oy
      replace Oz:=eq_true Oz
      have OA: 0≤(bp:Int):=of_decide_eq_true cL
      have OB:bp < (l1.length:Int):=of_decide_eq_true cL
      obtain ⟨anM,ahk,acS,acT,acU,acV,acW,acX⟩:=pz Cy.out bp OA OB
      cases ahk
      replace OA:=eq_true OA
      replace OB:=eq_true OB
      go_wp2
      repeat (go_quiet (fail);try go_wp2)
      go_ret
      exact ⟨by rfl,jl⟩
     ·rw [if_neg c8] at H
      have yB:((!((((bn l0 bp).f0.f0).toList) == (((bn l1 bp).f0.f0).toList)) || (!((((bn l0 bp).f0.f1).toList) == (((bn l1 bp).f0.f1).toList)) || (!(((bn l0 bp).f0.f2) == ((bn l1 bp).f0.f2))))) || (!(((bn l0 bp).f1) == ((bn l1 bp).f1)) || (!(((bn l0 bp).f2) == ((bn l1 bp).f2)) || (!(((bn l0 bp).f3) == ((bn l1 bp).f3))))))=false:=by simpa using c8
      clear c8
      have H':=ah.mk H
      clear H
      have Oy: 0≤(bp:Int):=of_decide_eq_true cL
      have Oz:bp < (l0.length:Int):=of_decide_eq_true cL
      obtain ⟨anL,ahj,acM,acN,acO,acP,acQ,acR⟩:=pz qN.out bp Oy Oz
      cases ahj
      replace Oy:=eq_true Oy
      replace Oz:=eq_true Oz
      have OA: 0≤(bp:Int):=of_decide_eq_true cL
      have OB:bp < (l1.length:Int):=of_decide_eq_true cL
      obtain ⟨anM,ahk,acS,acT,acU,acV,acW,acX⟩:=pz Cy.out bp OA OB
      cases ahk
      replace OA:=eq_true OA
      replace OB:=eq_true OB
      go_wp2
      repeat (go_quiet (fail);try go_wp2)
      go_roundg k1
      case measure=>have:=oI.out;omega
      case rel=>exact ⟨(wrap64 (bp + 1)),(by rfl),H',⟨lS⟩,jl⟩
    ·rw [if_neg c4] at H
     have ng:=decide_eq_false c4
     clear c4
     obtain rfl:=Option.some.inj H
     go_wp2
     repeat (go_quiet (fail);skip)
     go_ret
     exact ⟨by rfl,jl⟩
 ·rw [if_neg c3] at H
  have nT:=beq_eq_false_iff_ne.mpr c3
  have tZ:=bne_iff_ne.mpr c3
  have Fa:(l0.length == l1.length)=false:=by (simp at c3 ⊢;omega)
  obtain rfl:=Option.some.inj H
  go_enter Tryz.func115,Tryz.ntmps115
  go_wp2
  repeat (go_quiet (fail);skip)
  go_ret
  exact ⟨by rfl,mj⟩
end Go.Proofs.YtbjjaaodfbjkfaaGreatDoor.ow
