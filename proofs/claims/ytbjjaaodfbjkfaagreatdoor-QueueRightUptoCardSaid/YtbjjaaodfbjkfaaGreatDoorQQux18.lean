import Derived.Test.YtbjjaaodfbjkfaaGreatDoorQQux10
namespace Go.Proofs.YtbjjaaodfbjkfaaGreatDoor.mN
open Go.RowKit Go.Proofs.YtbjjaaodfbjkfaaGreatDoor.xV Go.Proofs.ak.bQ Go.Proofs.ak.dA Go.Proofs.ak.cX
attribute [local go_sem] jc jd j4 j5 gU gV je jf
set_option linter.unusedVariables false
set_option linter.unusedSimpArgs false
def fH.l0:Nat→Int→List (o8)→Int→Int→Int→List (o8)→Option (Bool)
 | 0,_,_,_,_,_,_ =>none
 |k + 1,x3,x7,x8,x9,Hs,Ow=>if x9 < x8 then (if 0≤x9 then (if x9 < (x7.length:Int) then ((fQ.f k ((aj x7 x9).f0) ((aj x7 x9).f1.f0) ((aj x7 x9).f1.f1) ((aj x7 x9).f1.f2.f0) ((aj x7 x9).f1.f2.f1) ((aj x7 x9).f1.f2.f2) ((aj x7 x9).f2) ((aj x7 x9).f3) ((aj x7 x9).f4)).bind fun ab7=>(if ab7=true then (if ((aj x7 x9).f0)≤x3 then (some false) else (fH.l0 k ((aj x7 x9).f0) x7 x8 (wrap64 (x9 + 1)) Hs Ow)) else (some false))) else (none)) else (none)) else (if Hs > x3 then (if Hs≤1099511627776 then (some (decide ((Ow.length:Int)≤1000))) else (some false)) else (some false))
def fH.f (k:Nat) (bf:Int) (aD:List (o8)):Option (Bool):=fH.l0 k 0 aD (aD.length:Int) 0 bf aD
set_option maxHeartbeats 8000000 in
set_option maxRecDepth 100000 in
theorem fH.calls (k:Nat) (bf:Int) (iQ:Option Addr) (gJ:Nat) (aD:List (o8)) (r:Bool) (w:World) (nR:Kd.C E4 w iQ aD.length aD) (nS:aD.length≤gJ) (hG:bp w) (h:fH.f k bf aD=some r):
 Calls Tryz.prog 30 #[.agg #[.int .i64 bf,.slice iQ aD.length gJ]] w fun e w'=>e= .returned (.bool r)∧Below w.heap.size w w':=by
 have QG:=Tryz.underlying40
 have BD:=Tryz.underlying34
 have rH:=ah.mk nR
 have DJ:=ah.mk nS
 clear nR nS
 have HB:=ah.mk (Below.refl w.heap.size w)
 have HG:=ah.mk hG
 clear hG
 have H:(fH.l0 k 0 aD (aD.length:Int) 0 bf aD)=some r:=h
 clear h
 have H':=ah.mk H
 clear H
 go_enter Tryz.func30,Tryz.ntmps30
 go_wp2_with (((with_reducible refine bq (N:=1) rfl ?_);(try (refine bV (by rfl) ?_;dsimp only));refine br ?hg (N:=1) ?hd (cs:=#[.int .i64 bf,.slice iQ aD.length gJ]) (t:=40) ?hr ?_;(case hd=>rfl);(case hg=>rfl);(case hr=>(go_simp;done));intro nT hg w2 bJ hb;have kT:=ah.mk (bJ);have azi:=ah.mk ((bI:w.heap.size≤nT));have azj:=ah.mk ((bI:w.heap.size≤nT));replace HB:=ah.mk (ay aJ hb);clear hb bJ hg;have Lq:w2.cell? ⟨nT,0,none⟩=some (.int .i64 bf):=(af kT.out 0).trans rfl;have Lr:w2.cell? ⟨nT,1,none⟩=some (.slice iQ aD.length gJ):=(af kT.out 1).trans rfl;have Ls:=aa kT.out 0;have Lt:=aa kT.out 1))
 go_loopg [3,9] k (fun kq v3 v9 w'=>∃ (zo:Int) (dg:Int),v3= .int .i64 zo∧v9= .int .i64 dg∧ah (fH.l0 kq zo aD (aD.length:Int) dg bf aD=some r)∧ah (kq≤k)∧ah (w'.heap[nT]? =some (.cells #[.int .i64 bf,(.slice iQ aD.length gJ)] 40 (0,0)))∧ah (Below w.heap.size w w'))
 case atStart=>exact ⟨(0),(0),(by rfl),(by rfl),H',⟨Nat.le_refl _⟩,⟨yq⟩,⟨aJ⟩⟩
 case round=>
  clear H'
  obtain ⟨zo,dg,rfl,rfl,HA,qi,kT,HB⟩:=hrel
  cases gk with
  |zero=>exact absurd HA.out (by simp [fH.l0])
  |succ k1=>
   have H:=HA.out
   clear HA
   simp only [fH.l0] at H
   by_cases c4:dg < (aD.length:Int)
   ·rw [if_pos c4] at H
    have mo:=decide_eq_true c4
    clear c4
    obtain ⟨c5,H⟩:=lJ H
    have pG:=decide_eq_true c5
    clear c5
    obtain ⟨c6,H⟩:=lJ H
    have xW:=decide_eq_true c6
    clear c6
    obtain ⟨ab7,A7,H⟩:=bd_ H
    by_cases c8:ab7=true
    ·subst c8
     rw [if_pos rfl] at H
     by_cases c9:((aj aD dg).f0)≤zo
     ·rw [if_pos c9] at H
      have SY:=decide_eq_true c9
      clear c9
      obtain rfl:=Option.some.inj H
      have DN: 0≤(dg:Int):=of_decide_eq_true cu
      have DR:dg < (aD.length:Int):=of_decide_eq_true cu
      obtain ⟨Kh,mV,mW,qa,qb,qM,qN,Ty,oF,oG,oH,oI,oJ,oK,oL,oM,oN,rJ,rK,rL,rM,rN,rO⟩:=qm rH.out dg DN DR
      cases Ty
      replace oF:=(HB.out.cell (World.block_lt_of_cell? w _ oF)).trans oF
      replace oG:=(HB.out.cell (World.block_lt_of_cell? w _ oG)).trans oG
      replace oH:=(HB.out.cell (World.block_lt_of_cell? w _ oH)).trans oH
      replace oI:=(HB.out.cell (World.block_lt_of_cell? w _ oI)).trans oI
      replace oJ:=(HB.out.cell (World.block_lt_of_cell? w _ oJ)).trans oJ
      replace oK:=(HB.out.cell (World.block_lt_of_cell? w _ oK)).trans oK
      replace oL:=(HB.out.cell (World.block_lt_of_cell? w _ oL)).trans oL
      replace oM:=(HB.out.cell (World.block_lt_of_cell? w _ oM)).trans oM
      replace oN:=(HB.out.cell (World.block_lt_of_cell? w _ oN)).trans oN
      have zq:=ah.mk rK
      have zu:=ah.mk rJ
      clear rK rJ
      have zw:=ah.mk rM
      have zx:=ah.mk rL
      clear rM rL
      have zy:=ah.mk rO
      have zz:=ah.mk rN
      clear rO rN
      replace DN:=eq_true DN
      replace DR:=eq_true DR
      go_wp2_with (first|((with_reducible refine bq (N:=5) rfl ?_);(try (refine bV (by rfl) ?_;dsimp only));refine br ?hg (N:=5) ?hd (cs:=#[.int .i64 0,.bool false,.slice none 0 0,.string (⟨#[]⟩:ByteArray),.string (⟨#[]⟩:ByteArray),.bool false,.slice none 0 0,.slice none 0 0,.int .i64 0]) (t:=34) ?hr ?_;(case hd=>rfl);(case hg=>rfl);(case hr=>(go_simp;done));intro fI hg mR bJ hb;have dw:=ah.mk (bJ);have aaj:=ah.mk ((bI:w.heap.size≤fI));have RS:=ah.mk ((bI:w.heap.size≤fI));replace HB:=ah.mk (ay aJ hb);have jr:=ah.mk ((FW:nT≠fI));have tB:=ah.mk ((FX:fI≠nT));replace kT:=ah.mk (az yq hb);clear hb bJ hg;have agc:=tB.out;have agd:=jr.out;have ue:mR.cell? ⟨fI,0,none⟩=some (.int .i64 0):=(af dw.out 0).trans rfl;have uf:mR.cell? ⟨fI,1,none⟩=some (.bool false):=(af dw.out 1).trans rfl;have wP:mR.cell? ⟨fI,2,none⟩=some (.slice none 0 0):=(af dw.out 2).trans rfl;have yF:mR.cell? ⟨fI,3,none⟩=some (.string (⟨#[]⟩:ByteArray)):=(af dw.out 3).trans rfl;have yG:mR.cell? ⟨fI,4,none⟩=some (.string (⟨#[]⟩:ByteArray)):=(af dw.out 4).trans rfl;have yH:mR.cell? ⟨fI,5,none⟩=some (.bool false):=(af dw.out 5).trans rfl;have yI:mR.cell? ⟨fI,6,none⟩=some (.slice none 0 0):=(af dw.out 6).trans rfl;have yJ:mR.cell? ⟨fI,7,none⟩=some (.slice none 0 0):=(af dw.out 7).trans rfl;have yK:mR.cell? ⟨fI,8,none⟩=some (.int .i64 0):=(af dw.out 8).trans rfl;have ug:=aa dw.out 0;have uh:=aa dw.out 1;have wQ:=aa dw.out 2;have yL:=aa dw.out 3;have yM:=aa dw.out 4;have yN:=aa dw.out 5;have yO:=aa dw.out 6;have yP:=aa dw.out 7;have yQ:=aa dw.out 8)|((with_reducible refine bH (f:=71) rfl ?_);refine dx (some 14) rfl rfl Tryz.func71 aq rfl #[.agg #[.int .i64 ((aj aD dg).f0),.bool ((aj aD dg).f1.f0),.slice mV ((aj aD dg).f1.f1).length mW,.string ((aj aD dg).f1.f2.f0),.string ((aj aD dg).f1.f2.f1),.bool ((aj aD dg).f1.f2.f2),.slice qa ((aj aD dg).f2).length qb,.slice qM ((aj aD dg).f3).length qN,.int .i64 ((aj aD dg).f4)]] rfl dI ?_;(with_reducible refine (fQ.calls k1 ((aj aD dg).f0) ((aj aD dg).f1.f0) _ _ ((aj aD dg).f1.f1) ((aj aD dg).f1.f2.f0) ((aj aD dg).f1.f2.f1) ((aj aD dg).f1.f2.f2) _ _ ((aj aD dg).f2) _ _ ((aj aD dg).f3) ((aj aD dg).f4) true _ ?bk ?bM ?cQ ?fk ?gf ?gh ?lq A7.out).mono ?_);(case bk=>exact Kd.bD zq.out nG);(case bM=>exact zu.out);(case cQ=>exact Kd.bD zw.out nG);(case fk=>exact zx.out);(case gf=>exact Kd.bD zy.out nG);(case gh=>exact zz.out);(case lq=>exact bp.below HG.out nG);rintro e ko ⟨rfl,hb⟩;refine ⟨_,rfl,?_⟩;replace kT:=ah.mk (az (g:=nT) (o:= .cells #[.int .i64 bf,.slice (some Kh) aD.length gJ] 40 (0,0)) K3 hb);replace dw:=ah.mk (az (g:=fI) (o:= .cells #[.int .i64 ((aj aD dg).f0),.bool ((aj aD dg).f1.f0),.slice mV ((aj aD dg).f1.f1).length mW,.string ((aj aD dg).f1.f2.f0),.string ((aj aD dg).f1.f2.f1),.bool ((aj aD dg).f1.f2.f2),.slice qa ((aj aD dg).f2).length qb,.slice qM ((aj aD dg).f3).length qN,.int .i64 ((aj aD dg).f4)] 34 (0,0)) RO hb);replace HB:=ah.mk (ay nG hb);(try clear hb);have wR:ko.cell? ⟨fI,0,none⟩=some (.int .i64 ((aj aD dg).f0)):=(af dw.out 0).trans rfl;have wS:ko.cell? ⟨fI,1,none⟩=some (.bool ((aj aD dg).f1.f0)):=(af dw.out 1).trans rfl;have yR:ko.cell? ⟨fI,2,none⟩=some (.slice mV ((aj aD dg).f1.f1).length mW):=(af dw.out 2).trans rfl;have yS:ko.cell? ⟨fI,3,none⟩=some (.string ((aj aD dg).f1.f2.f0)):=(af dw.out 3).trans rfl;have yT:ko.cell? ⟨fI,4,none⟩=some (.string ((aj aD dg).f1.f2.f1)):=(af dw.out 4).trans rfl;have yU:ko.cell? ⟨fI,5,none⟩=some (.bool ((aj aD dg).f1.f2.f2)):=(af dw.out 5).trans rfl;have Ce:ko.cell? ⟨fI,6,none⟩=some (.slice qa ((aj aD dg).f2).length qb):=(af dw.out 6).trans rfl;have Cf:ko.cell? ⟨fI,7,none⟩=some (.slice qM ((aj aD dg).f3).length qN):=(af dw.out 7).trans rfl;have Cg:ko.cell? ⟨fI,8,none⟩=some (.int .i64 ((aj aD dg).f4)):=(af dw.out 8).trans rfl;have wT:=aa dw.out 0;have wU:=aa dw.out 1;have yV:=aa dw.out 2;have yX:=aa dw.out 3;have yY:=aa dw.out 4;have yZ:=aa dw.out 5;have Ch:=aa dw.out 6;have Ci:=aa dw.out 7;have Cj:=aa dw.out 8))
      go_ret
      exact ⟨by rfl,aJ⟩
     ·rw [if_neg c9] at H
      have SY:=decide_eq_false c9
      clear c9
      have H':=ah.mk H
      clear H
      have DN: 0≤(dg:Int):=of_decide_eq_true cu
      have DR:dg < (aD.length:Int):=of_decide_eq_true cu
      obtain ⟨Kh,mV,mW,qa,qb,qM,qN,Ty,oF,oG,oH,oI,oJ,oK,oL,oM,oN,rJ,rK,rL,rM,rN,rO⟩:=qm rH.out dg DN DR
      cases Ty
      replace oF:=(HB.out.cell (World.block_lt_of_cell? w _ oF)).trans oF
      replace oG:=(HB.out.cell (World.block_lt_of_cell? w _ oG)).trans oG
      replace oH:=(HB.out.cell (World.block_lt_of_cell? w _ oH)).trans oH
      replace oI:=(HB.out.cell (World.block_lt_of_cell? w _ oI)).trans oI
      replace oJ:=(HB.out.cell (World.block_lt_of_cell? w _ oJ)).trans oJ
      replace oK:=(HB.out.cell (World.block_lt_of_cell? w _ oK)).trans oK
      replace oL:=(HB.out.cell (World.block_lt_of_cell? w _ oL)).trans oL
      replace oM:=(HB.out.cell (World.block_lt_of_cell? w _ oM)).trans oM
      replace oN:=(HB.out.cell (World.block_lt_of_cell? w _ oN)).trans oN
      have zq:=ah.mk rK
      have zu:=ah.mk rJ
      clear rK rJ
      have zw:=ah.mk rM
      have zx:=ah.mk rL
      clear rM rL
      have zy:=ah.mk rO
      have zz:=ah.mk rN
      clear rO rN
      replace DN:=eq_true DN
      replace DR:=eq_true DR
      go_wp2_with (first|((with_reducible refine bq (N:=5) rfl ?_);(try (refine bV (by rfl) ?_;dsimp only));refine br ?hg (N:=5) ?hd (cs:=#[.int .i64 0,.bool false,.slice none 0 0,.string (⟨#[]⟩:ByteArray),.string (⟨#[]⟩:ByteArray),.bool false,.slice none 0 0,.slice none 0 0,.int .i64 0]) (t:=34) ?hr ?_;(case hd=>rfl);(case hg=>rfl);(case hr=>(go_simp;done));intro fI hg qJ bJ hb;have dw:=ah.mk (bJ);have aaj:=ah.mk ((bI:w.heap.size≤fI));have RS:=ah.mk ((bI:w.heap.size≤fI));replace HB:=ah.mk (ay aJ hb);have jr:=ah.mk ((FW:nT≠fI));have tB:=ah.mk ((FX:fI≠nT));replace kT:=ah.mk (az yq hb);clear hb bJ hg;have azk:=tB.out;have azl:=jr.out;have Nz:qJ.cell? ⟨fI,0,none⟩=some (.int .i64 0):=(af dw.out 0).trans rfl;have NA:qJ.cell? ⟨fI,1,none⟩=some (.bool false):=(af dw.out 1).trans rfl;have X5:qJ.cell? ⟨fI,2,none⟩=some (.slice none 0 0):=(af dw.out 2).trans rfl;have X6:qJ.cell? ⟨fI,3,none⟩=some (.string (⟨#[]⟩:ByteArray)):=(af dw.out 3).trans rfl;have X7:qJ.cell? ⟨fI,4,none⟩=some (.string (⟨#[]⟩:ByteArray)):=(af dw.out 4).trans rfl;have X8:qJ.cell? ⟨fI,5,none⟩=some (.bool false):=(af dw.out 5).trans rfl;have X9:qJ.cell? ⟨fI,6,none⟩=some (.slice none 0 0):=(af dw.out 6).trans rfl;have Ya:qJ.cell? ⟨fI,7,none⟩=some (.slice none 0 0):=(af dw.out 7).trans rfl;have Yb:qJ.cell? ⟨fI,8,none⟩=some (.int .i64 0):=(af dw.out 8).trans rfl;have NB:=aa dw.out 0;have NC:=aa dw.out 1;have Yc:=aa dw.out 2;have Yd:=aa dw.out 3;have Ye:=aa dw.out 4;have Yf:=aa dw.out 5;have Yg:=aa dw.out 6;have Yh:=aa dw.out 7;have Yi:=aa dw.out 8)|((with_reducible refine bH (f:=71) rfl ?_);refine dx (some 14) rfl rfl Tryz.func71 aq rfl #[.agg #[.int .i64 ((aj aD dg).f0),.bool ((aj aD dg).f1.f0),.slice mV ((aj aD dg).f1.f1).length mW,.string ((aj aD dg).f1.f2.f0),.string ((aj aD dg).f1.f2.f1),.bool ((aj aD dg).f1.f2.f2),.slice qa ((aj aD dg).f2).length qb,.slice qM ((aj aD dg).f3).length qN,.int .i64 ((aj aD dg).f4)]] rfl dI ?_;(with_reducible refine (fQ.calls k1 ((aj aD dg).f0) ((aj aD dg).f1.f0) _ _ ((aj aD dg).f1.f1) ((aj aD dg).f1.f2.f0) ((aj aD dg).f1.f2.f1) ((aj aD dg).f1.f2.f2) _ _ ((aj aD dg).f2) _ _ ((aj aD dg).f3) ((aj aD dg).f4) true _ ?bk ?bM ?cQ ?fk ?gf ?gh ?lq A7.out).mono ?_);(case bk=>exact Kd.bD zq.out nG);(case bM=>exact zu.out);(case cQ=>exact Kd.bD zw.out nG);(case fk=>exact zx.out);(case gf=>exact Kd.bD zy.out nG);(case gh=>exact zz.out);(case lq=>exact bp.below HG.out nG);rintro e tK ⟨rfl,hb⟩;refine ⟨_,rfl,?_⟩;replace kT:=ah.mk (az (g:=nT) (o:= .cells #[.int .i64 bf,.slice (some Kh) aD.length gJ] 40 (0,0)) K3 hb);replace dw:=ah.mk (az (g:=fI) (o:= .cells #[.int .i64 ((aj aD dg).f0),.bool ((aj aD dg).f1.f0),.slice mV ((aj aD dg).f1.f1).length mW,.string ((aj aD dg).f1.f2.f0),.string ((aj aD dg).f1.f2.f1),.bool ((aj aD dg).f1.f2.f2),.slice qa ((aj aD dg).f2).length qb,.slice qM ((aj aD dg).f3).length qN,.int .i64 ((aj aD dg).f4)] 34 (0,0)) RO hb);replace HB:=ah.mk (ay nG hb);(try clear hb);have CM:tK.cell? ⟨fI,0,none⟩=some (.int .i64 ((aj aD dg).f0)):=(af dw.out 0).trans rfl;have CN:tK.cell? ⟨fI,1,none⟩=some (.bool ((aj aD dg).f1.f0)):=(af dw.out 1).trans rfl;have CO:tK.cell? ⟨fI,2,none⟩=some (.slice mV ((aj aD dg).f1.f1).length mW):=(af dw.out 2).trans rfl;have CP:tK.cell? ⟨fI,3,none⟩=some (.string ((aj aD dg).f1.f2.f0)):=(af dw.out 3).trans rfl;have CQ:tK.cell? ⟨fI,4,none⟩=some (.string ((aj aD dg).f1.f2.f1)):=(af dw.out 4).trans rfl;have CR:tK.cell? ⟨fI,5,none⟩=some (.bool ((aj aD dg).f1.f2.f2)):=(af dw.out 5).trans rfl;have CS:tK.cell? ⟨fI,6,none⟩=some (.slice qa ((aj aD dg).f2).length qb):=(af dw.out 6).trans rfl;have CT:tK.cell? ⟨fI,7,none⟩=some (.slice qM ((aj aD dg).f3).length qN):=(af dw.out 7).trans rfl;have CU:tK.cell? ⟨fI,8,none⟩=some (.int .i64 ((aj aD dg).f4)):=(af dw.out 8).trans rfl;have CV:=aa dw.out 0;have CX:=aa dw.out 1;have CY:=aa dw.out 2;have CZ:=aa dw.out 3;have C0:=aa dw.out 4;have C2:=aa dw.out 5;have C3:=aa dw.out 6;have C4:=aa dw.out 7;have C5:=aa dw.out 8))
      go_roundg k1
      case measure=>have:=qi.out;omega
      case rel=>exact ⟨((aj aD dg).f0),(wrap64 (dg + 1)),(by rfl),(by rfl),H',⟨lI⟩,⟨yq⟩,⟨aJ⟩⟩
    ·replace c8:=Bool.eq_false_iff.mpr c8
     subst c8
     rw [if_neg (show ¬ (false=true) by decide)] at H
     obtain rfl:=Option.some.inj H
     have DN: 0≤(dg:Int):=of_decide_eq_true cu
     have DR:dg < (aD.length:Int):=of_decide_eq_true cu
     obtain ⟨Kh,mV,mW,qa,qb,qM,qN,Ty,oF,oG,oH,oI,oJ,oK,oL,oM,oN,rJ,rK,rL,rM,rN,rO⟩:=qm rH.out dg DN DR
     cases Ty
     replace oF:=(HB.out.cell (World.block_lt_of_cell? w _ oF)).trans oF
     replace oG:=(HB.out.cell (World.block_lt_of_cell? w _ oG)).trans oG
     replace oH:=(HB.out.cell (World.block_lt_of_cell? w _ oH)).trans oH
     replace oI:=(HB.out.cell (World.block_lt_of_cell? w _ oI)).trans oI
     replace oJ:=(HB.out.cell (World.block_lt_of_cell? w _ oJ)).trans oJ
     replace oK:=(HB.out.cell (World.block_lt_of_cell? w _ oK)).trans oK
     replace oL:=(HB.out.cell (World.block_lt_of_cell? w _ oL)).trans oL
     replace oM:=(HB.out.cell (World.block_lt_of_cell? w _ oM)).trans oM
     replace oN:=(HB.out.cell (World.block_lt_of_cell? w _ oN)).trans oN
     have zq:=ah.mk rK
     have zu:=ah.mk rJ
     clear rK rJ
     have zw:=ah.mk rM
     have zx:=ah.mk rL
     clear rM rL
     have zy:=ah.mk rO
     have zz:=ah.mk rN
     clear rO rN
     replace DN:=eq_true DN
     replace DR:=eq_true DR
     go_wp2_with (first|((with_reducible refine bq (N:=5) rfl ?_);(try (refine bV (by rfl) ?_;dsimp only));refine br ?hg (N:=5) ?hd (cs:=#[.int .i64 0,.bool false,.slice none 0 0,.string (⟨#[]⟩:ByteArray),.string (⟨#[]⟩:ByteArray),.bool false,.slice none 0 0,.slice none 0 0,.int .i64 0]) (t:=34) ?hr ?_;(case hd=>rfl);(case hg=>rfl);(case hr=>(go_simp;done));intro fI hg wj bJ hb;have dw:=ah.mk (bJ);have aaj:=ah.mk ((bI:w.heap.size≤fI));have RS:=ah.mk ((bI:w.heap.size≤fI));replace HB:=ah.mk (ay aJ hb);have jr:=ah.mk ((FW:nT≠fI));have tB:=ah.mk ((FX:fI≠nT));replace kT:=ah.mk (az yq hb);clear hb bJ hg;have aak:=tB.out;have aal:=jr.out;have GV:wj.cell? ⟨fI,0,none⟩=some (.int .i64 0):=(af dw.out 0).trans rfl;have GW:wj.cell? ⟨fI,1,none⟩=some (.bool false):=(af dw.out 1).trans rfl;have GX:wj.cell? ⟨fI,2,none⟩=some (.slice none 0 0):=(af dw.out 2).trans rfl;have GY:wj.cell? ⟨fI,3,none⟩=some (.string (⟨#[]⟩:ByteArray)):=(af dw.out 3).trans rfl;have GZ:wj.cell? ⟨fI,4,none⟩=some (.string (⟨#[]⟩:ByteArray)):=(af dw.out 4).trans rfl;have G0:wj.cell? ⟨fI,5,none⟩=some (.bool false):=(af dw.out 5).trans rfl;have G1:wj.cell? ⟨fI,6,none⟩=some (.slice none 0 0):=(af dw.out 6).trans rfl;have G3:wj.cell? ⟨fI,7,none⟩=some (.slice none 0 0):=(af dw.out 7).trans rfl;have G5:wj.cell? ⟨fI,8,none⟩=some (.int .i64 0):=(af dw.out 8).trans rfl;have G6:=aa dw.out 0;have G7:=aa dw.out 1;have G8:=aa dw.out 2;have G9:=aa dw.out 3;have He:=aa dw.out 4;have Hf:=aa dw.out 5;have Hg:=aa dw.out 6;have Hh:=aa dw.out 7;have Hi:=aa dw.out 8)|((with_reducible refine bH (f:=71) rfl ?_);refine dx (some 14) rfl rfl Tryz.func71 aq rfl #[.agg #[.int .i64 ((aj aD dg).f0),.bool ((aj aD dg).f1.f0),.slice mV ((aj aD dg).f1.f1).length mW,.string ((aj aD dg).f1.f2.f0),.string ((aj aD dg).f1.f2.f1),.bool ((aj aD dg).f1.f2.f2),.slice qa ((aj aD dg).f2).length qb,.slice qM ((aj aD dg).f3).length qN,.int .i64 ((aj aD dg).f4)]] rfl dI ?_;(with_reducible refine (fQ.calls k1 ((aj aD dg).f0) ((aj aD dg).f1.f0) _ _ ((aj aD dg).f1.f1) ((aj aD dg).f1.f2.f0) ((aj aD dg).f1.f2.f1) ((aj aD dg).f1.f2.f2) _ _ ((aj aD dg).f2) _ _ ((aj aD dg).f3) ((aj aD dg).f4) false _ ?bk ?bM ?cQ ?fk ?gf ?gh ?lq A7.out).mono ?_);(case bk=>exact Kd.bD zq.out nG);(case bM=>exact zu.out);(case cQ=>exact Kd.bD zw.out nG);(case fk=>exact zx.out);(case gf=>exact Kd.bD zy.out nG);(case gh=>exact zz.out);(case lq=>exact bp.below HG.out nG);rintro e rG ⟨rfl,hb⟩;refine ⟨_,rfl,?_⟩;replace kT:=ah.mk (az (g:=nT) (o:= .cells #[.int .i64 bf,.slice (some Kh) aD.length gJ] 40 (0,0)) K3 hb);replace dw:=ah.mk (az (g:=fI) (o:= .cells #[.int .i64 ((aj aD dg).f0),.bool ((aj aD dg).f1.f0),.slice mV ((aj aD dg).f1.f1).length mW,.string ((aj aD dg).f1.f2.f0),.string ((aj aD dg).f1.f2.f1),.bool ((aj aD dg).f1.f2.f2),.slice qa ((aj aD dg).f2).length qb,.slice qM ((aj aD dg).f3).length qN,.int .i64 ((aj aD dg).f4)] 34 (0,0)) RO hb);replace HB:=ah.mk (ay nG hb);(try clear hb)))
     go_ret
     exact ⟨by rfl,aJ⟩
   ·rw [if_neg c4] at H
    have mo:=decide_eq_false c4
    clear c4
    by_cases c24:bf > zo
    ·rw [if_pos c24] at H
     have aam:decide (zo < bf)=true:=decide_eq_true c24
     clear c24
     by_cases UH:bf≤1099511627776
     ·rw [if_pos UH] at H
      have aan:=decide_eq_true UH
      clear UH
      obtain rfl:=Option.some.inj H
      have NM:wr.cell? ⟨nT,0,none⟩=some (.int .i64 bf):=(af kT.out 0).trans rfl
      have NN:wr.cell? ⟨nT,1,none⟩=some (.slice iQ aD.length gJ):=(af kT.out 1).trans rfl
      have NP:=aa kT.out 0
      have NQ:=aa kT.out 1
      go_wp2
      go_ret
      exact ⟨by rfl,aJ⟩
     ·rw [if_neg UH] at H
      have aan:=decide_eq_false UH
      clear UH
      obtain rfl:=Option.some.inj H
      have Yj:wr.cell? ⟨nT,0,none⟩=some (.int .i64 bf):=(af kT.out 0).trans rfl
      have Yk:wr.cell? ⟨nT,1,none⟩=some (.slice iQ aD.length gJ):=(af kT.out 1).trans rfl
      have Yl:=aa kT.out 0
      have Ym:=aa kT.out 1
      go_wp2
      go_ret
      exact ⟨by rfl,aJ⟩
    ·rw [if_neg c24] at H
     have aam:decide (zo < bf)=false:=decide_eq_false c24
     clear c24
     obtain rfl:=Option.some.inj H
     have Wc:wr.cell? ⟨nT,0,none⟩=some (.int .i64 bf):=(af kT.out 0).trans rfl
     have Wd:wr.cell? ⟨nT,1,none⟩=some (.slice iQ aD.length gJ):=(af kT.out 1).trans rfl
     have We:=aa kT.out 0
     have Wf:=aa kT.out 1
     go_wp2
     go_ret
     exact ⟨by rfl,aJ⟩
end Go.Proofs.YtbjjaaodfbjkfaaGreatDoor.mN
