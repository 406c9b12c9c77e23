import Derived.Test.YtbjjaaodfbjkfaaGreatDoorQQux2
import Derived.Test.YtbjjaaodfbjkfaaGreatDoorQQux11
set_option maxHeartbeats 8000000
set_option maxRecDepth 100000
namespace Go.Proofs.YtbjjaaodfbjkfaaGreatDoor.mN
open Go.RowKit Go.Proofs.YtbjjaaodfbjkfaaGreatDoor.xV Go.Proofs.ak.bQ Go.Proofs.ak.dA Go.Proofs.ak.cX
attribute [local go_sem] jc jd j4 j5 gU gV je jf
set_option linter.unusedVariables false
set_option linter.unusedSimpArgs false
attribute [local go_sem high] aaC
def cW.l0:Nat→List Int→Int→Int→Option (List Int)
 | 0,_,_,_ =>none
 |k + 1,x0,x1,x5=>if x5≥0 then (if 0≤(wrap64 (8 * x5)) then (if x0.length < 140737488355328 then (cW.l0 k (x0 ++ [(shr .i64 x1 (wrap64 (8 * x5))) % 256]) x1 (wrap64 (x5 - 1))) else (none)) else (none)) else (some x0)
def cW.f (k:Nat) (l0:List Int) (a1:Int):Option (List Int):=cW.l0 k l0 a1 5
theorem cW.ey:∀ k,(∀ y0 y1 y2,eY (cW.l0 k y0 y1 y2) (cW.l0 (k + 1) y0 y1 y2))
 | 0=>fun _ _ _ r h=>by simp [cW.l0] at h
 |k + 1=>by
  have mC:=cW.ey k
  ·intro y0 y1 y2
   unfold cW.l0
   repeat' (with_reducible first|exact mC _ _ _|exact eY.refl _|refine eY.ite ?_ ?_)
theorem cW.mono:∀ a0 a1 k,eY (cW.f k a0 a1) (cW.f (k + 1) a0 a1):=by
 intro a0 a1 k
 have mC:=cW.ey k
 unfold cW.f
 repeat' (with_reducible exact mC _ _ _)
theorem cW.calls (k:Nat) (Zg:Nat→Prop) (Mo:Value) (l0:List Int) (a1:Int) (r:List Int) (w0 w:World) (hB:Below w0.heap.size w0 w) (ho0:Kd.R (Kd.int .u8) 5 w w0.heap.size Zg Mo l0) (h:cW.f k l0 a1=some r):
 Calls Tryz.prog 62 #[Mo,.int .i64 a1] w fun e w'=>∃ DC:Value,e= .returned (DC)∧Kd.R (Kd.int .u8) 5 w' w0.heap.size (fun k_ =>(Zg k_∨w.heap.size≤k_)) DC r∧Below w0.heap.size w0 w'∧Kept w w' (fun k_ =>Zg k_):=by
 have HO0:=ah.mk (show Kd.R (Kd.int .u8) 5 w w0.heap.size (fun k_ =>(Zg k_∨w.heap.size≤k_)) Mo l0 from Kd.dH ho0 (fun k_ hk=>(.inl hk)))
 have HK:=ah.mk (Kept.refl w (fun k_ =>Zg k_))
 have HW0:=ah.mk hB.size
 have HB:=ah.mk hB
 clear hB
 have H:(cW.l0 k l0 a1 5)=some r:=h
 clear h
 have H':=ah.mk H
 clear H
 go_enter Tryz.func62,Tryz.ntmps62
 go_wp2
 go_loopg [0,5] k (fun kq v0 v5 w'=>∃ (Uh:List Int) (yj:Int),v5= .int .i64 yj∧ah (cW.l0 kq Uh a1 yj=some r)∧ah (kq≤k)∧ah (Kd.R (Kd.int .u8) 5 w' w0.heap.size (fun k_ =>(Zg k_∨w.heap.size≤k_)) v0 Uh)∧ah (Kept w w' (fun k_ =>Zg k_))∧ah (Below w0.heap.size w0 w'))
 case atStart=>exact ⟨(l0),(5),(by rfl),H',⟨Nat.le_refl _⟩,⟨by exact HO0.out⟩,⟨jV⟩,⟨aJ⟩⟩
 case round=>
  clear H'
  obtain ⟨Uh,yj,rfl,HA,qi,Zh,HK,HB⟩:=hrel
  cases gk with
  |zero=>exact absurd HA.out (by simp [cW.l0])
  |succ k1=>
   have H:=HA.out
   clear HA
   simp only [cW.l0] at H
   by_cases c3:yj≥0
   ·rw [if_pos c3] at H
    have nr:decide (0≤yj)=true:=decide_eq_true c3
    clear c3
    obtain ⟨ji4,ajf⟩:∃ j_:Int,(wrap64 (8 * yj))=j_ :=⟨_,rfl⟩
    (rw [ajf] at H)
    have aAG:(IntKind.i64.wrap (8 * yj))=ji4:=(aU _).trans ajf
    obtain ⟨c5,H⟩:=lJ H
    have pG:=eq_true c5
    have Lx:=decide_eq_true c5
    clear c5
    obtain ⟨ji6,ac2⟩:∃ j_:Int,(shr .i64 a1 (ji4))=j_ :=⟨_,rfl⟩
    (rw [ac2] at H)
    have aAH:(a1 / 2 ^ min (ji4).toNat 64)=ji6:=ac2
    have aAI:(ji4)≤64→(a1 / 2 ^ (ji4).toNat)=ji6:=Qt ac2
    obtain ⟨c7,H⟩:=lJ H
    have axE:=ah.mk c7
    clear c7
    obtain ⟨ajh,Ui⟩:∃ y_:List Int,y_=(Uh ++ [(ji6) % 256]):=⟨_,rfl⟩
    replace H:(cW.l0 k1 ajh a1 (wrap64 (yj - 1)))=some r:=by (rw [Ui];with_reducible exact H)
    have aji:=ah.mk Ui
    clear Ui
    have H':=ah.mk H
    clear H
    go_wp2_with (((with_reducible refine oz (b:= .append) (xs:=#[.tmp 10,.tmp 16]) rfl ?_);at_builtin;refine Kd.vU (Kd.int .u8) (w0:=w0) w0.heap.size rfl (.tmp 10) (.tmp 16) 22 5 (.int .u8 0) 1 rfl Tryz.underlying22 Z8 rfl bB aA u0 Uh ((ji6) % 256) [.int .u8 ((ji6) % 256)] (fun k_ =>(Zg k_∨w.heap.size≤k_)) (fun _ =>False) rfl rfl ?aP (fun _ hk=>hk.elim) ?aF ?aO ?aB ?aS ?aL ?_;(case aP=>exact rfl);(case aB=>exact aJ);(case aF=>exact (fun k_ hk=>(.inr (Nat.le_trans (by exact HK.out.1) hk))));(case aO=>exact (by exact Zh.out));(case aS=>exact (cg aJ));(case aL=>have:=axE.out;omega);intro aDv w8 ho hb hg hat;rw [← aji.out] at ho;replace HB:=ah.mk (hb);replace HK:=ah.mk (Kept.JI (S:=(fun k_ =>Zg k_)) hg jV (fun k_ e_ =>(Zh.out.1 k_ e_)));have ajj:=ah.mk (ho);clear Zh;clear ho hb hg hat))
    go_roundg k1
    case measure=>have:=qi.out;omega
    case rel=>exact ⟨(ajh),(wrap64 (yj - 1)),(by rfl),H',⟨lI⟩,⟨by exact ajj.out⟩,⟨jV⟩,⟨aJ⟩⟩
   ·rw [if_neg c3] at H
    have nr:decide (0≤yj)=false:=decide_eq_false c3
    clear c3
    obtain rfl:=Option.some.inj H
    go_wp2
    go_ret
    exact ⟨_,by rfl,by exact Zh.out,aJ,jV⟩
def fJ.f (k:Nat) (bf:Int) (bP:Int) (cE:Int) (bE:Int) (bK:Int) (bU:Bool) (bN:List ByteArray) (gH:ByteArray) (bX:ByteArray) (gI:Bool) (dO:List (jz)) (dP:List Int) (eP:Int):Option (List Int×Int):=(cK.f k bf bP cE bE bK bU bN gH bX gI dO dP eP).bind fun t273=>(if t273=true then (if bf=2 then (none) else (if bf=3 then ((cW.f k (([bf]:List Int)) bP).bind fun t277=>((cW.f k t277 cE).bind fun t280=>(some (t280,0)))) else (none))) else (none))
theorem fJ.mono:∀ a0 a1 a2 a3 a4 a5 a6 a7 a8 a9 TK TL a12 k,eY (fJ.f k a0 a1 a2 a3 a4 a5 a6 a7 a8 a9 TK TL a12) (fJ.f (k + 1) a0 a1 a2 a3 a4 a5 a6 a7 a8 a9 TK TL a12):=by
 intro a0 a1 a2 a3 a4 a5 a6 a7 a8 a9 TK TL a12 k
 unfold fJ.f
 repeat' (with_reducible first|exact cW.mono _ _ _|exact cK.mono _ _ _ _ _ _ _ _ _ _ _ _ _ _|exact eY.refl _|refine eY.ite ?_ ?_|refine eY.bind ?_ (fun _ =>?_))
def fJ.T9:Bool×List (List Nat×List Nat):=(true,[([],[]),([],[]),([1],[1]),([0,2],[0,2]),([],[]),([4],[4]),([3,5,3],[3,5]),([6,6,0,1,2,3,4,5,6],[6]),([7,0,1,2,3,4,5,6,7],[])])
def fJ.B9:List Nat:=[0,0,2,7,0,16,63,127,255]
theorem fJ.axF:pW .any (opsOf Tryz.f21 9)=fJ.T9:=by kernel_rfl
theorem fJ.ajk:pP fJ.T9.2 fJ.B9=true:=by kernel_rfl
theorem fJ.calls (k:Nat) (bf:Int) (bP:Int) (cE:Int) (bE:Int) (bK:Int) (bU:Bool) (cU:Option Addr) (cT:Nat) (bN:List ByteArray) (gH:ByteArray) (bX:ByteArray) (gI:Bool) (iA:Option Addr) (iB:Nat) (dO:List (jz)) (iC:Option Addr) (iD:Nat) (dP:List Int) (eP:Int) (r1:List Int) (r2:Int) (w:World) (mH:Kd.C Kd.string w cU bN.length bN) (mQ:bN.length≤cT) (DX:Kd.C tq w iA dO.length dO) (DY:dO.length≤iB) (DZ:Kd.C (Kd.int .u8) w iC dP.length dP) (D2:dP.length≤iD) (hG:bp w) (h:fJ.f k bf bP cE bE bK bU bN gH bX gI dO dP eP=some (r1,r2)):
 Calls Tryz.prog 21 #[.agg #[.int .u8 bf,.int .i64 bP,.int .i64 cE,.int .i64 bE,.int .i64 bK,.bool bU,.slice cU bN.length cT,.string gH,.string bX,.bool gI,.slice iA dO.length iB,.slice iC dP.length iD,.int .i64 eP]] w fun e w'=>∃ DC:Value,e= .returned (.tuple #[DC,.int .i64 r2])∧Kd.R (Kd.int .u8) 5 w' w.heap.size (fun _ =>True) DC r1∧Below w.heap.size w w':=by
 have agJ:=Tryz.underlying46
 have BD:=Tryz.underlying34
 have VA:=Tryz.underlying31
 have LM:=Tryz.underlying37
 have JW:=Tryz.underlying29
 have lH:=ah.mk mH
 have mA:=ah.mk mQ
 clear mH mQ
 have uM:=ah.mk DX
 have uN:=ah.mk DY
 clear DX DY
 have uO:=ah.mk DZ
 have uP:=ah.mk D2
 clear DZ D2
 have HB:=ah.mk (Below.refl w.heap.size w)
 have HG:=ah.mk hG
 clear hG
 have H:((cK.f k bf bP cE bE bK bU bN gH bX gI dO dP eP).bind fun t273=>(if t273=true then (if bf=2 then (none) else (if bf=3 then ((cW.f k (([bf]:List Int)) bP).bind fun t277=>((cW.f k t277 cE).bind fun t280=>(some (t280,0)))) else (none))) else (none)))=some (r1,r2):=h
 clear h
 obtain ⟨t273,A2,H⟩:=bd_ H
 by_cases c3:t273=true
 ·subst c3
  rw [if_pos rfl] at H
  obtain ⟨Uj,Uk⟩:∃ y_:List Int,y_=(([bf]:List Int)):=⟨_,rfl⟩
  replace H:(if bf=2 then (none) else (if bf=3 then ((cW.f k Uj bP).bind fun t277=>((cW.f k t277 cE).bind fun t280=>(some (t280,0)))) else (none)))=some (r1,r2):=by (rw [Uk];with_reducible exact H)
  have ajl:=ah.mk Uk
  clear Uk
  obtain ⟨c4,H⟩:=av7 H
  have mo:=beq_eq_false_iff_ne.mpr c4
  have Aj:=bne_iff_ne.mpr c4
  obtain ⟨c5,H⟩:=lJ H
  have pG:=beq_iff_eq.mpr c5
  have Lx:=bne_eq_false_iff_eq.mpr c5
  clear c5
  obtain ⟨t277,A6,H⟩:=bd_ H
  obtain ⟨t280,A7,H⟩:=bd_ H
  simp only [Option.some.injEq,Prod.mk.injEq] at H
  obtain ⟨rfl,rfl⟩:=H
  go_enter Tryz.func21,Tryz.ntmps21
  try go_wp2_with (first|((with_reducible refine bq (N:=1) rfl ?_);refine br ?hg (N:=1) ?hd (cs:=#[.int .u8 bf,.int .i64 bP,.int .i64 cE,.int .i64 bE,.int .i64 bK,.bool bU,.slice cU bN.length cT,.string gH,.string bX,.bool gI,.slice iA dO.length iB,.slice iC dP.length iD,.int .i64 eP]) (t:=46) ?hr ?_;(case hd=>rfl);(case hg=>rfl);(case hr=>(go_simp;done));intro fZ hg w8 bJ hb;have cx:=ah.mk (bJ);have aAJ:=ah.mk ((bI:w.heap.size≤fZ));have aAK:=ah.mk ((bI:w.heap.size≤fZ));replace HB:=ah.mk (ay aJ hb);clear hb bJ hg;have Af:w8.cell? ⟨fZ,0,none⟩=some (.int .u8 bf):=(af cx.out 0).trans rfl;have Ag:w8.cell? ⟨fZ,1,none⟩=some (.int .i64 bP):=(af cx.out 1).trans rfl;have Tc:w8.cell? ⟨fZ,2,none⟩=some (.int .i64 cE):=(af cx.out 2).trans rfl;have abA:w8.cell? ⟨fZ,3,none⟩=some (.int .i64 bE):=(af cx.out 3).trans rfl;have abB:w8.cell? ⟨fZ,4,none⟩=some (.int .i64 bK):=(af cx.out 4).trans rfl;have abC:w8.cell? ⟨fZ,5,none⟩=some (.bool bU):=(af cx.out 5).trans rfl;have axG:w8.cell? ⟨fZ,6,none⟩=some (.slice cU bN.length cT):=(af cx.out 6).trans rfl;have axH:w8.cell? ⟨fZ,7,none⟩=some (.string gH):=(af cx.out 7).trans rfl;have axI:w8.cell? ⟨fZ,8,none⟩=some (.string bX):=(af cx.out 8).trans rfl;have axJ:w8.cell? ⟨fZ,9,none⟩=some (.bool gI):=(af cx.out 9).trans rfl;have asS:w8.cell? ⟨fZ,10,none⟩=some (.slice iA dO.length iB):=(af cx.out 10).trans rfl;have asT:w8.cell? ⟨fZ,11,none⟩=some (.slice iC dP.length iD):=(af cx.out 11).trans rfl;have asU:w8.cell? ⟨fZ,12,none⟩=some (.int .i64 eP):=(af cx.out 12).trans rfl;have Ah:=aa cx.out 0;have Ai:=aa cx.out 1;have Td:=aa cx.out 2;have abD:=aa cx.out 3;have abE:=aa cx.out 4;have abF:=aa cx.out 5;have axK:=aa cx.out 6;have axL:=aa cx.out 7;have axM:=aa cx.out 8;have axN:=aa cx.out 9;have asV:=aa cx.out 10;have asW:=aa cx.out 11;have asX:=aa cx.out 12)|((with_reducible refine bH (f:=58) rfl ?_);refine dx (some 9) rfl rfl Tryz.func58 aq rfl #[.agg #[.int .u8 bf,.int .i64 bP,.int .i64 cE,.int .i64 bE,.int .i64 bK,.bool bU,.slice cU bN.length cT,.string gH,.string bX,.bool gI,.slice iA dO.length iB,.slice iC dP.length iD,.int .i64 eP]] rfl dI ?_;(with_reducible refine (cK.calls k bf bP cE bE bK bU _ _ bN gH bX gI _ _ dO _ _ dP eP true _ ?bk ?bM ?cQ ?fk ?gf ?gh ?lq A2.out).mono ?_);(case bk=>repeat (exact (Kd.bD lH.out HB.out)));(case bM=>exact mA.out);(case cQ=>repeat (exact (Kd.bD uM.out HB.out)));(case fk=>exact uN.out);(case gf=>repeat (exact (Kd.bD uO.out HB.out)));(case gh=>exact uP.out);(case lq=>exact bp.below HG.out aJ);rintro e mR ⟨rfl,hb⟩;refine ⟨_,rfl,?_⟩;replace cx:=ah.mk (az (by exact cx.out) hb);replace HB:=ah.mk (ay aJ hb);(try clear hb);have Vh:mR.cell? ⟨fZ,0,none⟩=some (.int .u8 bf):=(af cx.out 0).trans rfl;have Vi:mR.cell? ⟨fZ,1,none⟩=some (.int .i64 bP):=(af cx.out 1).trans rfl;have Vj:mR.cell? ⟨fZ,2,none⟩=some (.int .i64 cE):=(af cx.out 2).trans rfl;have asY:mR.cell? ⟨fZ,3,none⟩=some (.int .i64 bE):=(af cx.out 3).trans rfl;have asZ:mR.cell? ⟨fZ,4,none⟩=some (.int .i64 bK):=(af cx.out 4).trans rfl;have as0:mR.cell? ⟨fZ,5,none⟩=some (.bool bU):=(af cx.out 5).trans rfl;have as1:mR.cell? ⟨fZ,6,none⟩=some (.slice cU bN.length cT):=(af cx.out 6).trans rfl;have as2:mR.cell? ⟨fZ,7,none⟩=some (.string gH):=(af cx.out 7).trans rfl;have as3:mR.cell? ⟨fZ,8,none⟩=some (.string bX):=(af cx.out 8).trans rfl;have as4:mR.cell? ⟨fZ,9,none⟩=some (.bool gI):=(af cx.out 9).trans rfl;have ajm:mR.cell? ⟨fZ,10,none⟩=some (.slice iA dO.length iB):=(af cx.out 10).trans rfl;have ajn:mR.cell? ⟨fZ,11,none⟩=some (.slice iC dP.length iD):=(af cx.out 11).trans rfl;have ajo:mR.cell? ⟨fZ,12,none⟩=some (.int .i64 eP):=(af cx.out 12).trans rfl;have Vk:=aa cx.out 0;have Vl:=aa cx.out 1;have Vm:=aa cx.out 2;have as5:=aa cx.out 3;have as6:=aa cx.out 4;have as7:=aa cx.out 5;have as8:=aa cx.out 6;have as9:=aa cx.out 7;have ata:=aa cx.out 8;have atb:=aa cx.out 9;have ajp:=aa cx.out 10;have ajq:=aa cx.out 11;have ajr:=aa cx.out 12)|((with_reducible refine bq (N:=13) rfl ?_);refine Kd.mG (Kd.int .u8) _ 5 ?hg (N:=13) ?hd (xs:=([bf]:List Int)) (inner:=[.int .u8 bf]) (ok:=fun _ =>True) (pN:=fun _ =>True) ?hr ?hp (fun _ hk=>hk) trivial (Below.refl _ _) (Nat.le_refl _) cP ?_;(case hd=>rfl);(case hg=>rfl);(case hr=>(go_simp;done));(case hp=>exact (dK.one (show Kd.M (Kd.int .u8) _ _ _ bf [.int .u8 bf] from rfl) (dK.none _ _)));intro aDw Cx ac3 hb ru gN;clear ru gN;(rw [← ajl.out] at ac3);have Bv:=ah.mk (Kd.dW ac3 (cg aJ));replace cx:=ah.mk (az (by exact cx.out) hb);replace HB:=ah.mk (ay aJ hb);clear hb ac3;have wR:Cx.cell? ⟨fZ,0,none⟩=some (.int .u8 bf):=(af cx.out 0).trans rfl;have wS:Cx.cell? ⟨fZ,1,none⟩=some (.int .i64 bP):=(af cx.out 1).trans rfl;have yR:Cx.cell? ⟨fZ,2,none⟩=some (.int .i64 cE):=(af cx.out 2).trans rfl;have yS:Cx.cell? ⟨fZ,3,none⟩=some (.int .i64 bE):=(af cx.out 3).trans rfl;have yT:Cx.cell? ⟨fZ,4,none⟩=some (.int .i64 bK):=(af cx.out 4).trans rfl;have yU:Cx.cell? ⟨fZ,5,none⟩=some (.bool bU):=(af cx.out 5).trans rfl;have Ce:Cx.cell? ⟨fZ,6,none⟩=some (.slice cU bN.length cT):=(af cx.out 6).trans rfl;have Cf:Cx.cell? ⟨fZ,7,none⟩=some (.string gH):=(af cx.out 7).trans rfl;have Cg:Cx.cell? ⟨fZ,8,none⟩=some (.string bX):=(af cx.out 8).trans rfl;have atc:Cx.cell? ⟨fZ,9,none⟩=some (.bool gI):=(af cx.out 9).trans rfl;have ajs:Cx.cell? ⟨fZ,10,none⟩=some (.slice iA dO.length iB):=(af cx.out 10).trans rfl;have ajt:Cx.cell? ⟨fZ,11,none⟩=some (.slice iC dP.length iD):=(af cx.out 11).trans rfl;have aju:Cx.cell? ⟨fZ,12,none⟩=some (.int .i64 eP):=(af cx.out 12).trans rfl;have wT:=aa cx.out 0;have wU:=aa cx.out 1;have yV:=aa cx.out 2;have yX:=aa cx.out 3;have yY:=aa cx.out 4;have yZ:=aa cx.out 5;have Ch:=aa cx.out 6;have Ci:=aa cx.out 7;have Cj:=aa cx.out 8;have atd:=aa cx.out 9;have ajv:=aa cx.out 10;have ajw:=aa cx.out 11;have ajx:=aa cx.out 12))
  have jT:=ah.mk (Kd.aa1 Bv.out)
  have jU:=ah.mk (iw cx.out)
  have mO:=ah.mk (fW HB.out)
  clear Bv
  clear cx
  clear HB
  have Bv:=jT
  have cx:=jU
  have HB:=mO
  clear jT jU mO
  obtain ⟨LG,LH,Ta⟩:=Kd.dh Bv.out
  (subst Ta)
  refine kK (n:=9) (S:=fun w'=>w'.cell? ⟨fZ,0,none⟩=some (.int .u8 bf)∧w'.cell? ⟨fZ,1,none⟩=some (.int .i64 bP)∧w'.cell? ⟨fZ,2,none⟩=some (.int .i64 cE)∧w'.cell? ⟨fZ,3,none⟩=some (.int .i64 bE)∧w'.cell? ⟨fZ,4,none⟩=some (.int .i64 bK)∧w'.cell? ⟨fZ,5,none⟩=some (.bool bU)∧w'.cell? ⟨fZ,6,none⟩=some (.slice cU bN.length cT)∧w'.cell? ⟨fZ,7,none⟩=some (.string gH)∧w'.cell? ⟨fZ,8,none⟩=some (.string bX)∧w'.cell? ⟨fZ,9,none⟩=some (.bool gI)∧w'.cell? ⟨fZ,10,none⟩=some (.slice iA dO.length iB)∧w'.cell? ⟨fZ,11,none⟩=some (.slice iC dP.length iD)∧w'.cell? ⟨fZ,12,none⟩=some (.int .i64 eP)) (ds:=[]) #[false,false,false,false,false,false,false,false,false] aq (by rfl) (by rfl) ⟨(af cx.out 0).trans rfl,(af cx.out 1).trans rfl,(af cx.out 2).trans rfl,(af cx.out 3).trans rfl,(af cx.out 4).trans rfl,(af cx.out 5).trans rfl,(af cx.out 6).trans rfl,(af cx.out 7).trans rfl,(af cx.out 8).trans rfl,(af cx.out 9).trans rfl,(af cx.out 10).trans rfl,(af cx.out 11).trans rfl,(af cx.out 12).trans rfl⟩ (fun hHeld=>?_);refine kB fJ.axF fJ.ajk (fun dc q8=>?_)
  generalize Cx.drew=qJ at Bv cx HB hHeld ⊢
  refine aN (i:=0) (N:=some 31) #[true,false,false,false,false,false,false,false,false] rfl rfl (bg dc.out aq) (fun _ _ _ h=>h) (Or.inl ⟨by rfl,cD⟩) rfl ?_
  refine aN (i:=1) (N:=some 32) #[true,true,false,false,false,false,false,false,false] rfl rfl (bg dc.out aq) (fun _ _ _ h=>h) (Or.inl ⟨by rfl,cD⟩) rfl ?_
  refine aN (i:=4) (N:=some 35) #[true,true,false,false,true,false,false,false,false] rfl rfl (bg dc.out aq) (fun _ _ _ h=>h) (Or.inl ⟨by rfl,cD⟩) rfl ?_
  refine fN (i:=2) (N:=some 33) #[true,true,true,false,true,false,false,false,false] rfl rfl (eU dc.out q8.out aq) (fun _ _ _ h=>h) (Or.inl ⟨by rfl,MV⟩) hHeld rfl ?_
  refine fN (i:=5) (N:=some 36) #[true,true,true,false,true,true,false,false,false] rfl rfl (eU dc.out q8.out aq) (fun _ _ _ h=>h) (Or.inl ⟨by rfl,MV⟩) hHeld rfl ?_
  refine nL (i:=3) (N:=some 34) #[true,true,true,true,true,true,false,false,false] rfl rfl (jJ dc.out aq) bB (fun K hK=>?_)
  refine lg Tryz.func62 aq rfl #[.slice LG Uj.length LH,.int .i64 bP] (by rfl) rfl rfl dI ?_
  with_reducible refine (cW.calls k (fun k_ =>some k_=(.slice LG Uj.length LH:Value).ownBlock) (.slice LG Uj.length LH) Uj bP t277 w _ ?bk ?bM A6.out).mono ?_
  (case bk=>repeat ((with_reducible exact HB.out)))
  (case bM=>exact Kd.yD rfl Bv.out)
  rintro e sL ⟨aDx,rfl,ho0,hb,hkp⟩
  refine ⟨_,rfl,?_⟩
  have jT:=ah.mk (Dr (by exact cx.out) hkp (fun hs_ =>(fun e_ =>(Kd.vT Bv.out cx.out bB) e_) hs_))
  have jU:=ah.mk (Kd.dH (ok':=fun k_ =>True) ho0 (fun k_ hk_ =>trivial))
  have mO:=ah.mk (hb)
  clear cx
  clear HB
  clear Bv
  have cx:=jT
  have P6:=jU
  have HB:=mO
  clear jT jU mO
  obtain ⟨TN,TP,acK⟩:=Kd.dh P6.out
  (subst acK)
  refine hK.out _ _ ⟨(af cx.out 0).trans rfl,(af cx.out 1).trans rfl,(af cx.out 2).trans rfl,(af cx.out 3).trans rfl,(af cx.out 4).trans rfl,(af cx.out 5).trans rfl,(af cx.out 6).trans rfl,(af cx.out 7).trans rfl,(af cx.out 8).trans rfl,(af cx.out 9).trans rfl,(af cx.out 10).trans rfl,(af cx.out 11).trans rfl,(af cx.out 12).trans rfl⟩ (fun hHeld=>?_)
  clear hK K
  refine jW (a':=?_) ?_ ?_
  rotate_left
  ·show Act.put _ (some 34) _=_
   simp only [Act.put,List.setIfInBounds_toArray,List.set_cons_zero,List.set_cons_succ,aU,aV]
   rfl
  refine nL (i:=6) (N:=some 37) #[true,true,true,true,true,true,true,false,false] rfl rfl (jJ dc.out aq) bB (fun K hK=>?_)
  refine lg Tryz.func62 aq rfl #[.slice TN t277.length TP,.int .i64 cE] (by rfl) rfl rfl dI ?_
  with_reducible refine (cW.calls k (fun k_ =>some k_=(.slice TN t277.length TP:Value).ownBlock) (.slice TN t277.length TP) t277 cE t280 w _ ?bk ?bM A7.out).mono ?_
  (case bk=>repeat ((with_reducible exact HB.out)))
  (case bM=>exact Kd.yD rfl P6.out)
  rintro e w19 ⟨aDy,rfl,ho0,hb,hkp⟩
  refine ⟨_,rfl,?_⟩
  have jT:=ah.mk (Dr (by exact cx.out) hkp (fun hs_ =>(fun e_ =>(Kd.vT P6.out cx.out bB) e_) hs_))
  have jU:=ah.mk (Kd.dH (ok':=fun k_ =>True) ho0 (fun k_ hk_ =>trivial))
  have mO:=ah.mk (hb)
  clear cx
  clear HB
  clear P6
  have cx:=jT
  have ajy:=jU
  have HB:=mO
  clear jT jU mO
  refine hK.out _ _ ⟨(af cx.out 0).trans rfl,(af cx.out 1).trans rfl,(af cx.out 2).trans rfl,(af cx.out 3).trans rfl,(af cx.out 4).trans rfl,(af cx.out 5).trans rfl,(af cx.out 6).trans rfl,(af cx.out 7).trans rfl,(af cx.out 8).trans rfl,(af cx.out 9).trans rfl,(af cx.out 10).trans rfl,(af cx.out 11).trans rfl,(af cx.out 12).trans rfl⟩ (fun hHeld=>?_)
  clear hK K
  refine jW (a':=?_) ?_ ?_
  rotate_left
  ·show Act.put _ (some 37) _=_
   simp only [Act.put,List.setIfInBounds_toArray,List.set_cons_zero,List.set_cons_succ,aU,aV]
   rfl
  refine aN (i:=7) (N:=some 2) #[true,true,true,true,true,true,true,true,false] rfl rfl (bg dc.out aq) (fun _ _ _ h=>h) (Or.inl ⟨by rfl,cD⟩) rfl ?_
  refine aN (i:=8) (N:=some 3) #[true,true,true,true,true,true,true,true,true] rfl rfl (bg dc.out aq) (fun _ _ _ h=>h) (Or.inl ⟨by rfl,cD⟩) rfl ?_
  refine nk (nD dc.out aq) ?_
  try go_wp2
  go_ret2
  exact ⟨_,by rfl,by exact ajy.out,aJ⟩
 ·replace c3:=Bool.eq_false_iff.mpr c3
  subst c3
  rw [if_neg (show ¬ (false=true) by decide)] at H
  exact absurd H cP
def bu.l0:Nat→List ByteArray→List ByteArray→Int→Int→Option (Bool)
 | 0,_,_,_,_ =>none
 |k + 1,x0,x1,xA,o9=>if o9 < xA then (if 0≤o9 then (if o9 < (x0.length:Int) then (if o9 < (x1.length:Int) then (if (nj ByteArray.empty x0 o9).toList=(nj ByteArray.empty x1 o9).toList then (bu.l0 k x0 x1 xA (wrap64 (o9 + 1))) else (some false)) else (none)) else (none)) else (none)) else (some true)
def bu.f (k:Nat) (l0:List ByteArray) (l1:List ByteArray):Option (Bool):=if (l0.length:Int)=(l1.length:Int) then (bu.l0 k l0 l1 (l0.length:Int) 0) else (some false)
theorem bu.ey:∀ k,(∀ y0 y1 y2 y3,eY (bu.l0 k y0 y1 y2 y3) (bu.l0 (k + 1) y0 y1 y2 y3))
 | 0=>fun _ _ _ _ r h=>by simp [bu.l0] at h
 |k + 1=>by
  have mC:=bu.ey k
  ·intro y0 y1 y2 y3
   unfold bu.l0
   repeat' (with_reducible first|exact mC _ _ _ _|exact eY.refl _|refine eY.ite ?_ ?_)
theorem bu.mono:∀ a0 a1 k,eY (bu.f k a0 a1) (bu.f (k + 1) a0 a1):=by
 intro a0 a1 k
 have mC:=bu.ey k
 unfold bu.f
 repeat' (with_reducible first|exact mC _ _ _ _|exact eY.refl _|refine eY.ite ?_ ?_)
theorem bu.calls (k:Nat) (A0:Option Addr) (c0:Nat) (l0:List ByteArray) (A1:Option Addr) (c1:Nat) (l1:List ByteArray) (r:Bool) (w:World) (nE:Kd.C Kd.string w A0 l0.length l0) (hc0:l0.length≤c0) (hr1:Kd.C Kd.string w A1 l1.length l1) (hc1:l1.length≤c1) (h:bu.f k l0 l1=some r):
 Calls Tryz.prog 114 #[.slice A0 l0.length c0,.slice A1 l1.length c1] w fun e w'=>e= .returned (.bool r)∧ij w w':=by
 have qZ:=ah.mk nE
 have E7:=ah.mk hc0
 clear nE hc0
 have Fh:=ah.mk hr1
 have ym:=ah.mk hc1
 clear hr1 hc1
 have H:(if (l0.length:Int)=(l1.length:Int) then (bu.l0 k l0 l1 (l0.length:Int) 0) else (some false))=some r:=h
 clear h
 by_cases c3:(l0.length:Int)=(l1.length:Int)
 ·rw [if_pos c3] at H
  have nr:=beq_iff_eq.mpr c3
  have xk:=bne_eq_false_iff_eq.mpr c3
  have QE:(l0.length == l1.length)=true:=by (simp at c3 ⊢;omega)
  clear c3
  have H':=ah.mk H
  clear H
  go_enter Tryz.func114,Tryz.ntmps114
  go_wp2
  repeat (go_quiet (fail);skip)
  go_loopg [13] k (fun kq v13 w'=>∃ (bz:Int),v13= .int .i64 bz∧ah (bu.l0 kq l0 l1 (l0.length:Int) bz=some r)∧ah (kq≤k)∧ij w w')
  case atStart=>exact ⟨(0),(by rfl),H',⟨Nat.le_refl _⟩,mj⟩
  case round=>
   clear H'
   obtain ⟨bz,rfl,HA,qi,⟨m1,rfl⟩⟩:=hrel
   cases gk with
   |zero=>exact absurd HA.out (by simp [bu.l0])
   |succ k1=>
    have H:=HA.out
    clear HA
    simp only [bu.l0] at H
    by_cases c4:bz < (l0.length:Int)
    ·rw [if_pos c4] at H
     have mo:=decide_eq_true c4
     clear c4
     obtain ⟨c5,H⟩:=lJ H
     have pG:=decide_eq_true c5
     clear c5
     obtain ⟨c6,H⟩:=lJ H
     have xW:=decide_eq_true c6
     clear c6
     obtain ⟨c7,H⟩:=lJ H
     have JZ:=decide_eq_true c7
     clear c7
     by_cases c8:(nj ByteArray.empty l0 bz).toList=(nj ByteArray.empty l1 bz).toList
     ·rw [if_pos c8] at H
      have BF:=beq_iff_eq.mpr c8
      have Lp:=bne_eq_false_iff_eq.mpr c8
      clear c8
      have H':=ah.mk H
      clear H
      have Mp: 0≤(bz:Int):=of_decide_eq_true cu
      have Mq:bz < (l0.length:Int):=of_decide_eq_true cu
      obtain ⟨ajz,ac4,Zi⟩:=Kd.jO qZ.out bz Mp Mq
      cases ac4
      replace Mp:=eq_true Mp
      replace Mq:=eq_true Mq
      have Mr: 0≤(bz:Int):=of_decide_eq_true cu
      have Ms:bz < (l1.length:Int):=of_decide_eq_true cu
      obtain ⟨ajA,ac5,Zj⟩:=Kd.jO Fh.out bz Mr Ms
      cases ac5
      replace Mr:=eq_true Mr
      replace Ms:=eq_true Ms
      go_wp2
      repeat (go_quiet (fail);try go_wp2)
      go_roundg k1
      case measure=>have:=qi.out;omega
      case rel=>exact ⟨(wrap64 (bz + 1)),(by rfl),H',⟨lI⟩,kI⟩
     ·rw [if_neg c8] at H
      have BF:=beq_eq_false_iff_ne.mpr c8
      have Lp:=bne_iff_ne.mpr c8
      obtain rfl:=Option.some.inj H
      have Mp: 0≤(bz:Int):=of_decide_eq_true cu
      have Mq:bz < (l0.length:Int):=of_decide_eq_true cu
      obtain ⟨ajz,ac4,Zi⟩:=Kd.jO qZ.out bz Mp Mq
      cases ac4
      replace Mp:=eq_true Mp
      replace Mq:=eq_true Mq
      have Mr: 0≤(bz:Int):=of_decide_eq_true cu
      have Ms:bz < (l1.length:Int):=of_decide_eq_true cu
      obtain ⟨ajA,ac5,Zj⟩:=Kd.jO Fh.out bz Mr Ms
      cases ac5
      replace Mr:=eq_true Mr
      replace Ms:=eq_true Ms
      go_wp2
      repeat (go_quiet (fail);try go_wp2)
      go_ret
      exact ⟨by rfl,kI⟩
    ·rw [if_neg c4] at H
     have mo:=decide_eq_false c4
     clear c4
     obtain rfl:=Option.some.inj H
     go_wp2
     repeat (go_quiet (fail);skip)
     go_ret
     exact ⟨by rfl,kI⟩
 ·rw [if_neg c3] at H
  have nr:=beq_eq_false_iff_ne.mpr c3
  have xk:=bne_iff_ne.mpr c3
  have QE:(l0.length == l1.length)=false:=by (simp at c3 ⊢;omega)
  obtain rfl:=Option.some.inj H
  go_enter Tryz.func114,Tryz.ntmps114
  go_wp2
  repeat (go_quiet (fail);skip)
  go_ret
  exact ⟨by rfl,mj⟩
def bn.l0:Nat→List (jz)→List (jz)→Int→Int→Option (Bool)
 | 0,_,_,_,_ =>none
 |k + 1,x0,x1,xA,o9=>if o9 < xA then (if 0≤o9 then (if o9 < (x0.length:Int) then (if o9 < (x1.length:Int) then (if ((!((((bR x0 o9).f0.f0).toList) == (((bR x1 o9).f0.f0).toList)) || (!((((bR x0 o9).f0.f1).toList) == (((bR x1 o9).f0.f1).toList)) || (!(((bR x0 o9).f0.f2) == ((bR x1 o9).f0.f2))))) || (!(((bR x0 o9).f1) == ((bR x1 o9).f1)) || (!(((bR x0 o9).f2) == ((bR x1 o9).f2)) || (!(((bR x0 o9).f3) == ((bR x1 o9).f3))))))=true then (some false) else (bn.l0 k x0 x1 xA (wrap64 (o9 + 1)))) else (none)) else (none)) else (none)) else (some true)
def bn.f (k:Nat) (l0:List (jz)) (l1:List (jz)):Option (Bool):=if (l0.length:Int)=(l1.length:Int) then (bn.l0 k l0 l1 (l0.length:Int) 0) else (some false)
theorem bn.ey:∀ k,(∀ y0 y1 y2 y3,eY (bn.l0 k y0 y1 y2 y3) (bn.l0 (k + 1) y0 y1 y2 y3))
 | 0=>fun _ _ _ _ r h=>by simp [bn.l0] at h
 |k + 1=>by
  have mC:=bn.ey k
  ·intro y0 y1 y2 y3
   unfold bn.l0
   repeat' (with_reducible first|exact mC _ _ _ _|exact eY.refl _|refine eY.ite ?_ ?_)
theorem bn.mono:∀ a0 a1 k,eY (bn.f k a0 a1) (bn.f (k + 1) a0 a1):=by
 intro a0 a1 k
 have mC:=bn.ey k
 unfold bn.f
 repeat' (with_reducible first|exact mC _ _ _ _|exact eY.refl _|refine eY.ite ?_ ?_)
theorem bn.calls (k:Nat) (A0:Option Addr) (c0:Nat) (l0:List (jz)) (A1:Option Addr) (c1:Nat) (l1:List (jz)) (r:Bool) (w:World) (nE:Kd.C tq w A0 l0.length l0) (hc0:l0.length≤c0) (hr1:Kd.C tq w A1 l1.length l1) (hc1:l1.length≤c1) (h:bn.f k l0 l1=some r):
 Calls Tryz.prog 115 #[.slice A0 l0.length c0,.slice A1 l1.length c1] w fun e w'=>e= .returned (.bool r)∧ij w w':=by
 have LM:=Tryz.underlying37
 have qZ:=ah.mk nE
 have E7:=ah.mk hc0
 clear nE hc0
 have Fh:=ah.mk hr1
 have ym:=ah.mk hc1
 clear hr1 hc1
 have H:(if (l0.length:Int)=(l1.length:Int) then (bn.l0 k l0 l1 (l0.length:Int) 0) else (some false))=some r:=h
 clear h
 by_cases c3:(l0.length:Int)=(l1.length:Int)
 ·rw [if_pos c3] at H
  have nr:=beq_iff_eq.mpr c3
  have xk:=bne_eq_false_iff_eq.mpr c3
  have QE:(l0.length == l1.length)=true:=by (simp at c3 ⊢;omega)
  clear c3
  have H':=ah.mk H
  clear H
  go_enter Tryz.func115,Tryz.ntmps115
  go_wp2
  repeat (go_quiet (fail);skip)
  go_loopg [13] k (fun kq v13 w'=>∃ (bz:Int),v13= .int .i64 bz∧ah (bn.l0 kq l0 l1 (l0.length:Int) bz=some r)∧ah (kq≤k)∧ij w w')
  case atStart=>exact ⟨(0),(by rfl),H',⟨Nat.le_refl _⟩,mj⟩
  case round=>
   clear H'
   obtain ⟨bz,rfl,HA,qi,⟨m1,rfl⟩⟩:=hrel
   cases gk with
   |zero=>exact absurd HA.out (by simp [bn.l0])
   |succ k1=>
    have H:=HA.out
    clear HA
    simp only [bn.l0] at H
    by_cases c4:bz < (l0.length:Int)
    ·rw [if_pos c4] at H
     have mo:=decide_eq_true c4
     clear c4
     obtain ⟨c5,H⟩:=lJ H
     have pG:=decide_eq_true c5
     clear c5
     obtain ⟨c6,H⟩:=lJ H
     have xW:=decide_eq_true c6
     clear c6
     obtain ⟨c7,H⟩:=lJ H
     have JZ:=decide_eq_true c7
     clear c7
     by_cases c8:((!((((bR l0 bz).f0.f0).toList) == (((bR l1 bz).f0.f0).toList)) || (!((((bR l0 bz).f0.f1).toList) == (((bR l1 bz).f0.f1).toList)) || (!(((bR l0 bz).f0.f2) == ((bR l1 bz).f0.f2))))) || (!(((bR l0 bz).f1) == ((bR l1 bz).f1)) || (!(((bR l0 bz).f2) == ((bR l1 bz).f2)) || (!(((bR l0 bz).f3) == ((bR l1 bz).f3))))))=true
     ·rw [if_pos c8] at H
      have BF:((!((((bR l0 bz).f0.f0).toList) == (((bR l1 bz).f0.f0).toList)) || (!((((bR l0 bz).f0.f1).toList) == (((bR l1 bz).f0.f1).toList)) || (!(((bR l0 bz).f0.f2) == ((bR l1 bz).f0.f2))))) || (!(((bR l0 bz).f1) == ((bR l1 bz).f1)) || (!(((bR l0 bz).f2) == ((bR l1 bz).f2)) || (!(((bR l0 bz).f3) == ((bR l1 bz).f3))))))=true:=c8
      clear c8
      obtain rfl:=Option.some.inj H
      have Mt: 0≤(bz:Int):=of_decide_eq_true cu
      have Mu:bz < (l0.length:Int):=of_decide_eq_true cu
      obtain ⟨ajB,ac6,Zk,Zl,Zm,Zn,Zo,Zp⟩:=ql qZ.out bz Mt Mu
      cases ac6
      replace Mt:=eq_true Mt
      replace Mu:=eq_true Mu
      have Mv: 0≤(bz:Int):=of_decide_eq_true cu
      have Mw:bz < (l1.length:Int):=of_decide_eq_true cu
      obtain ⟨ajC,ac7,Zq,Zr,Zt,Zu,Zv,Zw⟩:=ql Fh.out bz Mv Mw
      cases ac7
      replace Mv:=eq_true Mv
      replace Mw:=eq_true Mw
      go_wp2
      repeat (go_quiet (fail);try go_wp2)
      go_ret
      exact ⟨by rfl,kI⟩
     ·rw [if_neg c8] at H
      have BF:((!((((bR l0 bz).f0.f0).toList) == (((bR l1 bz).f0.f0).toList)) || (!((((bR l0 bz).f0.f1).toList) == (((bR l1 bz).f0.f1).toList)) || (!(((bR l0 bz).f0.f2) == ((bR l1 bz).f0.f2))))) || (!(((bR l0 bz).f1) == ((bR l1 bz).f1)) || (!(((bR l0 bz).f2) == ((bR l1 bz).f2)) || (!(((bR l0 bz).f3) == ((bR l1 bz).f3))))))=false:=by simpa using c8
      clear c8
      have H':=ah.mk H
      clear H
      have Mt: 0≤(bz:Int):=of_decide_eq_true cu
      have Mu:bz < (l0.length:Int):=of_decide_eq_true cu
      obtain ⟨ajB,ac6,Zk,Zl,Zm,Zn,Zo,Zp⟩:=ql qZ.out bz Mt Mu
      cases ac6
      replace Mt:=eq_true Mt
      replace Mu:=eq_true Mu
      have Mv: 0≤(bz:Int):=of_decide_eq_true cu
      have Mw:bz < (l1.length:Int):=of_decide_eq_true cu
      obtain ⟨ajC,ac7,Zq,Zr,Zt,Zu,Zv,Zw⟩:=ql Fh.out bz Mv Mw
      cases ac7
      replace Mv:=eq_true Mv
      replace Mw:=eq_true Mw
      go_wp2
      repeat (go_quiet (fail);try go_wp2)
      go_roundg k1
      case measure=>have:=qi.out;omega
      case rel=>exact ⟨(wrap64 (bz + 1)),(by rfl),H',⟨lI⟩,kI⟩
    ·rw [if_neg c4] at H
     have mo:=decide_eq_false c4
     clear c4
     obtain rfl:=Option.some.inj H
     go_wp2
     repeat (go_quiet (fail);skip)
     go_ret
     exact ⟨by rfl,kI⟩
 ·rw [if_neg c3] at H
  have nr:=beq_eq_false_iff_ne.mpr c3
  have xk:=bne_iff_ne.mpr c3
  have QE:(l0.length == l1.length)=false:=by (simp at c3 ⊢;omega)
  obtain rfl:=Option.some.inj H
  go_enter Tryz.func115,Tryz.ntmps115
  go_wp2
  repeat (go_quiet (fail);skip)
  go_ret
  exact ⟨by rfl,mj⟩
end Go.Proofs.YtbjjaaodfbjkfaaGreatDoor.mN
