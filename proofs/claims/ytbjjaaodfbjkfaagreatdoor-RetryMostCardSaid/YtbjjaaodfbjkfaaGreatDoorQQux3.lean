import Derived.Test.YtbjjaaodfbjkfaaGreatDoorESlim
import Derived.Test.YtbjjaaodfbjkfaaGreatDoorQQux0
import Derived.Test.YtbjjaaodfbjkfaaGreatDoorWRepsOne
set_option maxHeartbeats 8000000
set_option maxRecDepth 100000
namespace Go.Proofs.YtbjjaaodfbjkfaaGreatDoor.qb
open Go.RowKit Go.Proofs.YtbjjaaodfbjkfaaGreatDoor.xI Go.Proofs.aj.bQ Go.Proofs.aj.dX Go.Proofs.aj.dJ
attribute [local go_sem] jT jU lF lG iX iY jV jW
set_option linter.unusedVariables false
set_option linter.unusedSimpArgs false
def ck.l0:Nat→List Int→List Int→Int→Int→Option (List Int)
 | 0,_,_,_,_ =>none
 |k + 1,x3,Aj,Dd,Pc=>if Pc < Dd then (if 0≤Pc then (if Pc < (Aj.length:Int) then (if Pc=0 then (if ([]:List Int).length < 17592186044416 then (ck.l0 k (([]:List Int) ++ [wrap64 (1 + (wrap64 (rd Aj Pc)))]) Aj Dd (wrap64 (Pc + 1))) else (none)) else (if x3.length < 17592186044416 then (ck.l0 k (x3 ++ [wrap64 (1 + (wrap64 (rd Aj Pc)))]) Aj Dd (wrap64 (Pc + 1))) else (none))) else (none)) else (none)) else (some x3)
def ck.f (k:Nat) (l0:List Int):Option (List Int):=if 0≤(mn (l0.length:Int) 50) then (if (mn (l0.length:Int) 50)≤(l0.length:Int) then (ck.l0 k (([1]:List Int)) (l0.take ((mn (l0.length:Int) 50):Int).toNat) ((l0.take ((mn (l0.length:Int) 50):Int).toNat).length:Int) 0) else (none)) else (none)
theorem ck.calls (k:Nat) (A0:Option Addr) (c0:Nat) (l0:List Int) (r:List Int) (w:World) (lN:Kd.C (Kd.int .u8) w A0 l0.length l0) (hc0:l0.length≤c0) (h:ck.f k l0=some r):
 Calls Tryz.prog 13 #[.slice A0 l0.length c0] w fun e w'=>∃ H8:Value,e= .returned (H8)∧Kd.R (Kd.int .i64) 3 w' w.heap.size (fun _ =>True) H8 r∧Below w.heap.size w w':=by
 have nr:=ah.mk lN
 have sU:=ah.mk hc0
 clear lN hc0
 have HB:=ah.mk (Below.refl w.heap.size w)
 have H:(if 0≤(mn (l0.length:Int) 50) then (if (mn (l0.length:Int) 50)≤(l0.length:Int) then (ck.l0 k (([1]:List Int)) (l0.take ((mn (l0.length:Int) 50):Int).toNat) ((l0.take ((mn (l0.length:Int) 50):Int).toNat).length:Int) 0) else (none)) else (none))=some r:=h
 clear h
 obtain ⟨agN,QV⟩:∃ y_:List Int,y_=(([1]:List Int)):=⟨_,rfl⟩
 replace H:(if 0≤(mn (l0.length:Int) 50) then (if (mn (l0.length:Int) 50)≤(l0.length:Int) then (ck.l0 k agN (l0.take ((mn (l0.length:Int) 50):Int).toNat) ((l0.take ((mn (l0.length:Int) 50):Int).toNat).length:Int) 0) else (none)) else (none))=some r:=by (rw [QV];with_reducible exact H)
 have agO:=ah.mk QV
 clear QV
 obtain ⟨qy,Ur⟩:∃ j_:Int,(mn (l0.length:Int) 50)=j_ :=⟨_,rfl⟩
 (rw [Ur] at H)
 (try (have aER:qy≤50:=by (rw [← Ur];unfold mn;(repeat' split)<;>omega)))
 (try (have aES:qy≤64:=by omega))
 (try (have aET: 0≤qy:=by (rw [← Ur];unfold mn;(repeat' split)<;>omega)))
 (try (have aEU: 0≤qy:=by omega))
 have aEV:(if 50 < (l0.length:Int) then 50 else (l0.length:Int))=qy:=Ur
 obtain ⟨c3,H⟩:=ld H
 have pF:=eq_true c3
 have De:=decide_eq_true c3
 clear c3
 obtain ⟨c4,H⟩:=ld H
 have oU:=eq_true c4
 have Bl:=decide_eq_true c4
 clear c4
 have H':=ah.mk H
 clear H
 go_enter Tryz.func13,Tryz.ntmps13
 go_wp2_with (((with_reducible refine bI (N:=6) rfl ?_);refine Kd.kZ (Kd.int .i64) _ 3 ?hg (N:=6) ?hd (xs:=([1]:List Int)) (inner:=[.int .i64 1]) (ok:=fun _ =>True) (oQ:=fun _ =>True) ?hr ?hp (fun _ hk=>hk) trivial (Below.refl _ _) (Nat.le_refl _) cO ?_;(case hd=>rfl);(case hg=>rfl);(case hr=>(go_simp;done));(case hp=>exact (dn.one (show Kd.M (Kd.int .i64) _ _ _ 1 [.int .i64 1] from rfl) (dn.none _ _)));intro aIM w5 ho6 hb qc fV;clear qc fV;(rw [← agO.out] at ho6);have agP:=ah.mk (Kd.cN ho6 (bL aD));replace HB:=ah.mk (aA aD hb);clear hb ho6;obtain ⟨i07,agQ,_,agR,_⟩:=info_parts abc;obtain ⟨aEW,hA7,hC7⟩:=Ch (P:=Tryz.prog) (Value.int .u8) 0 22 5 .i64 Tryz.underlying22 agQ agR A0 c0 l0 (qy) (of_decide_eq_true cP) (of_decide_eq_true cP) sU.out;have abd:=ah.mk (Kd.wT (h1:=fun _ =>rfl) (hA7 _ (Kd.wU nr.out)));have aEZ:=ah.mk hC7;clear hA7 hC7 agQ agR))
 go_loopg [3,13] k (fun kq v3 v13 w'=>∃ (Ad:List Int) (kj:Int),v13= .int .i64 kj∧ah (ck.l0 kq Ad (l0.take ((qy):Int).toNat) ((l0.take ((qy):Int).toNat).length:Int) kj=some r)∧ah (kq≤k)∧ah (Kd.R (Kd.int .i64) 3 w' w.heap.size (fun _ =>True) v3 Ad)∧ah (Below w.heap.size w w'))
 case atStart=>exact ⟨(agN),(0),(by rfl),H',⟨Nat.le_refl _⟩,⟨by exact agP.out⟩,⟨aD⟩⟩
 case round=>
  clear H'
  obtain ⟨Ad,kj,rfl,HA,sw,z8,HB⟩:=hrel
  cases gk with
  |zero=>exact absurd HA.out (by simp [ck.l0])
  |succ k1=>
   have H:=HA.out
   clear HA
   simp only [ck.l0] at H
   by_cases c8:kj < ((l0.take ((qy):Int).toNat).length:Int)
   ·rw [if_pos c8] at H
    have Cl:=decide_eq_true c8
    (try (have Pd:decide (kj < max qy 0)=true:=by have z_ :=c8;rw [List.length_take] at z_;have y_:qy≤(l0.length:Int):=tq;have x_: 0≤qy:=o8;(rw [decide_eq_true_iff];omega)))
    (try (have QX:(kj < max qy 0)=True:=by have z_ :=c8;rw [List.length_take] at z_;have y_:qy≤(l0.length:Int):=tq;have x_: 0≤qy:=o8;exact eq_true ay))
    (try (have ac9:(kj < qy)=True:=by have z_ :=c8;rw [List.length_take] at z_;have y_:qy≤(l0.length:Int):=tq;have x_: 0≤qy:=o8;exact eq_true ay))
    clear c8
    obtain ⟨c9,H⟩:=ld H
    have Us:=decide_eq_true c9
    clear c9
    obtain ⟨c10,H⟩:=ld H
    have Bn:=decide_eq_true c10
    (try (have Le:decide (kj < max qy 0)=true:=by have z_ :=c10;rw [List.length_take] at z_;have y_:qy≤(l0.length:Int):=tq;have x_: 0≤qy:=o8;(rw [decide_eq_true_iff];omega)))
    (try (have aE0:(kj < max qy 0)=True:=by have z_ :=c10;rw [List.length_take] at z_;have y_:qy≤(l0.length:Int):=tq;have x_: 0≤qy:=o8;exact eq_true ay))
    (try (have aE1:(kj < qy)=True:=by have z_ :=c10;rw [List.length_take] at z_;have y_:qy≤(l0.length:Int):=tq;have x_: 0≤qy:=o8;exact eq_true ay))
    clear c10
    by_cases c11:kj=0
    ·rw [if_pos c11] at H
     have xN:=beq_iff_eq.mpr c11
     have abe:=bne_eq_false_iff_eq.mpr c11
     clear c11
     obtain ⟨c12,H⟩:=ld H
     have QY:=ah.mk c12
     clear c12
     obtain ⟨agS,QZ⟩:∃ y_:List Int,y_=(([]:List Int) ++ [wrap64 (1 + (wrap64 (rd (l0.take ((qy):Int).toNat) kj)))]):=⟨_,rfl⟩
     replace H:(ck.l0 k1 agS (l0.take ((qy):Int).toNat) ((l0.take ((qy):Int).toNat).length:Int) (wrap64 (kj + 1)))=some r:=by (rw [QZ];with_reducible exact H)
     have agT:=ah.mk QZ
     clear QZ
     have H':=ah.mk H
     clear H
     have Jx: 0≤(kj:Int):=of_decide_eq_true cP
     have Jy:kj < ((l0.take ((qy):Int).toNat).length:Int):=of_decide_eq_true cP
     obtain ⟨agU,ada,tG⟩:=Kd.p4 abd.out kj Jx Jy
     cases ada
     replace tG:=(HB.out.cell (World.block_lt_of_cell? w _ tG)).trans tG
     replace Jx:=eq_true Jx
     replace Jy:=eq_true Jy
     go_wp2_with (((with_reducible refine oD (b:= .append) (xs:=#[.tmp 20,.tmp 24]) rfl ?_);at_builtin;refine Kd.uL (Kd.int .i64) (w0:=w) w.heap.size rfl (.tmp 20) (.tmp 24) 25 3 (.int .i64 0) 8 rfl Tryz.underlying25 info3 rfl bE ay (.slice none 0 0) ([]:List Int) (wrap64 (1 + (wrap64 (rd (l0.take ((qy):Int).toNat) kj)))) [.int .i64 (wrap64 (1 + (wrap64 (rd (l0.take ((qy):Int).toNat) kj))))] (fun k_ =>some k_≠(u3:Value).ownBlock) (fun _ =>False) rfl rfl ?aP (fun _ hk=>hk.elim) ?aF ?aO ?aB ?aS ?aL ?_;(case aP=>exact rfl);(case aB=>exact aD);(case aF=>exact (fun k_ hk=>Kd.fresh' (Kd.iD qj) k_ hk));(case aO=>exact ((Kd.Cw _ _ _ _ (fun k_ =>some k_≠(u3:Value).ownBlock))));(case aS=>exact (bL aD));(case aL=>have:=QY.out;omega);intro v107 rX ho hb hg hat;rw [← agT.out] at ho;replace z8:=ah.mk (Kd.K4 (Kd.Hx qj) hg hat);replace HB:=ah.mk (hb);have agV:=ah.mk (ho);clear ho hb hg hat))
     go_roundg k1
     case measure=>have:=sw.out;omega
     case rel=>exact ⟨(agS),(wrap64 (kj + 1)),(by rfl),H',⟨lA⟩,⟨by exact Kd.cu agV.out (fun _ hk=>trivial)⟩,⟨aD⟩⟩
    ·rw [if_neg c11] at H
     have xN:=beq_eq_false_iff_ne.mpr c11
     have abe:=bne_iff_ne.mpr c11
     obtain ⟨c14,H⟩:=ld H
     have agW:=ah.mk c14
     clear c14
     obtain ⟨agX,Q0⟩:∃ y_:List Int,y_=(Ad ++ [wrap64 (1 + (wrap64 (rd (l0.take ((qy):Int).toNat) kj)))]):=⟨_,rfl⟩
     replace H:(ck.l0 k1 agX (l0.take ((qy):Int).toNat) ((l0.take ((qy):Int).toNat).length:Int) (wrap64 (kj + 1)))=some r:=by (rw [Q0];with_reducible exact H)
     have agY:=ah.mk Q0
     clear Q0
     have H':=ah.mk H
     clear H
     have Jx: 0≤(kj:Int):=of_decide_eq_true cP
     have Jy:kj < ((l0.take ((qy):Int).toNat).length:Int):=of_decide_eq_true cP
     obtain ⟨agU,ada,tG⟩:=Kd.p4 abd.out kj Jx Jy
     cases ada
     replace tG:=(HB.out.cell (World.block_lt_of_cell? w _ tG)).trans tG
     replace Jx:=eq_true Jx
     replace Jy:=eq_true Jy
     go_wp2_with (((with_reducible refine oD (b:= .append) (xs:=#[.tmp 20,.tmp 24]) rfl ?_);at_builtin;refine Kd.uL (Kd.int .i64) (w0:=w) w.heap.size rfl (.tmp 20) (.tmp 24) 25 3 (.int .i64 0) 8 rfl Tryz.underlying25 info3 rfl bE ay u3 Ad (wrap64 (1 + (wrap64 (rd (l0.take ((qy):Int).toNat) kj)))) [.int .i64 (wrap64 (1 + (wrap64 (rd (l0.take ((qy):Int).toNat) kj))))] (fun _ =>True) (fun _ =>False) rfl rfl ?aP (fun _ hk=>hk.elim) ?aF ?aO ?aB ?aS ?aL ?_;(case aP=>exact rfl);(case aB=>exact aD);(case aF=>exact (fun _ _ =>trivial));(case aO=>exact qj);(case aS=>exact (bL aD));(case aL=>have:=agW.out;omega);intro aIN uC ho hb hg hat;rw [← agY.out] at ho;replace HB:=ah.mk (hb);have agZ:=ah.mk (ho);clear z8;clear ho hb hg hat))
     go_roundg k1
     case measure=>have:=sw.out;omega
     case rel=>exact ⟨(agX),(wrap64 (kj + 1)),(by rfl),H',⟨lA⟩,⟨by exact agZ.out⟩,⟨aD⟩⟩
   ·rw [if_neg c8] at H
    have Cl:=decide_eq_false c8
    (try (have Pd:decide (kj < max qy 0)=false:=by have z_ :=c8;rw [List.length_take] at z_;have y_:qy≤(l0.length:Int):=tq;have x_: 0≤qy:=o8;(rw [decide_eq_false_iff_not];omega)))
    (try (have QX:(kj < max qy 0)=False:=by have z_ :=c8;rw [List.length_take] at z_;have y_:qy≤(l0.length:Int):=tq;have x_: 0≤qy:=o8;exact eq_false ay))
    (try (have ac9:(kj < qy)=False:=by have z_ :=c8;rw [List.length_take] at z_;have y_:qy≤(l0.length:Int):=tq;have x_: 0≤qy:=o8;exact eq_false ay))
    clear c8
    obtain rfl:=Option.some.inj H
    go_wp2
    go_ret
    exact ⟨_,by rfl,qj,aD⟩
def bC.l0:Nat→List ByteArray→Int→Int→Int→Bool→ByteArray→ByteArray→Bool→List (iN)→Int→Option (Int×Bool×List ByteArray×ByteArray×ByteArray×Bool×(List (iN))×List Int×Int)
 | 0,_,_,_,_,_,_,_,_,_,_ =>none
 |k + 1,Pe,x20,x21,Lf,Lg,Lh,Li,Lj,Df,Ll=>if x21 < x20 then (if 0≤x21 then (if x21 < (Pe.length:Int) then (if Df.length < 2199023255552 then (bC.l0 k Pe x20 (wrap64 (x21 + 1)) Lf Lg Lh Li Lj (Df ++ [(⟨(⟨qU ByteArray.empty Pe x21,(⟨#[99]⟩:ByteArray),false⟩:sD),0,0,0⟩:iN)]) Ll) else (none)) else (none)) else (none)) else (some (Lf,Lg,([]:List ByteArray),Lh,Li,Lj,Df,([]:List Int),Ll))
def bC.f (k:Nat) (a0:Int) (a1:ByteArray) (l2:List ByteArray):Option (Int×Bool×List ByteArray×ByteArray×ByteArray×Bool×(List (iN))×List Int×Int):=if a1.toList=([]:List UInt8) then (bC.l0 k l2 (l2.length:Int) 0 a0 true (⟨#[]⟩:ByteArray) (⟨#[]⟩:ByteArray) false ([]:List (iN)) 0) else (bC.l0 k l2 (l2.length:Int) 0 a0 false a1 (⟨#[98]⟩:ByteArray) false ([]:List (iN)) 0)
theorem bC.ij:∀ k,(∀ y0 y1 y2 y3 y4 y5 y6 y7 y8 y9,gB (bC.l0 k y0 y1 y2 y3 y4 y5 y6 y7 y8 y9) (bC.l0 (k + 1) y0 y1 y2 y3 y4 y5 y6 y7 y8 y9))
 | 0=>fun _ _ _ _ _ _ _ _ _ _ r h=>by simp [bC.l0] at h
 |k + 1=>by
  have sG:=bC.ij k
  ·intro y0 y1 y2 y3 y4 y5 y6 y7 y8 y9
   unfold bC.l0
   repeat' (with_reducible first|exact sG _ _ _ _ _ _ _ _ _ _|exact gB.refl _|refine gB.ite ?_ ?_)
theorem bC.mono:∀ a0 a1 a2 k,gB (bC.f k a0 a1 a2) (bC.f (k + 1) a0 a1 a2):=by
 intro a0 a1 a2 k
 have sG:=bC.ij k
 unfold bC.f
 repeat' (with_reducible first|exact sG _ _ _ _ _ _ _ _ _ _|refine gB.ite ?_ ?_)
theorem bC.calls (k:Nat) (a0:Int) (a1:ByteArray) (A2:Option Addr) (c2:Nat) (l2:List ByteArray) (r1:Int) (r2:Bool) (r3:List ByteArray) (r4:ByteArray) (r5:ByteArray) (r6:Bool) (r7:List (iN)) (r8:List Int) (r9:Int) (w:World) (hr2:Kd.C Kd.string w A2 l2.length l2) (hc2:l2.length≤c2) (h:bC.f k a0 a1 l2=some (r1,r2,r3,r4,r5,r6,r7,r8,r9)):
 Calls Tryz.prog 14 #[.int .i64 a0,.string a1,.slice A2 l2.length c2] w fun e w'=>∃ v2_ Pf v7_:Value,e= .returned (.agg #[.int .i64 r1,.bool r2,v2_,.string r4,.string r5,.bool r6,Pf,v7_,.int .i64 r9])∧Kd.R Kd.string 9 w' w.heap.size (fun _ =>True) v2_ r3∧Kd.R mV 37 w' w.heap.size (fun _ =>True) Pf r7∧Kd.R (Kd.int .u8) 5 w' w.heap.size (fun _ =>True) v7_ r8∧Below w.heap.size w w':=by
 have Dg:=Tryz.underlying34
 have Q3:=Tryz.underlying29
 have adb:=Tryz.underlying31
 have ade:=Tryz.underlying37
 have HR2:=ah.mk hr2
 have HC2:=ah.mk hc2
 clear hr2 hc2
 have HB:=ah.mk (Below.refl w.heap.size w)
 have H:(if a1.toList=([]:List UInt8) then (bC.l0 k l2 (l2.length:Int) 0 a0 true (⟨#[]⟩:ByteArray) (⟨#[]⟩:ByteArray) false ([]:List (iN)) 0) else (bC.l0 k l2 (l2.length:Int) 0 a0 false a1 (⟨#[98]⟩:ByteArray) false ([]:List (iN)) 0))=some (r1,r2,r3,r4,r5,r6,r7,r8,r9):=h
 clear h
 by_cases c4:a1.toList=([]:List UInt8)
 ·rw [if_pos c4] at H
  have oU:=beq_iff_eq.mpr c4
  have Bl:=bne_eq_false_iff_eq.mpr c4
  clear c4
  have H':=ah.mk H
  clear H
  go_enter Tryz.func14,Tryz.ntmps14
  go_wp2_with (first|((with_reducible refine bI (N:=6) rfl ?_);refine bR ?hg (N:=6) ?hd (cs:=#[.int .i64 0,.bool false,.slice none 0 0,.string (⟨#[]⟩:ByteArray),.string (⟨#[]⟩:ByteArray),.bool false,.slice none 0 0,.slice none 0 0,.int .i64 0]) (t:=34) ?hr ?_;(case hd=>rfl);(case hg=>rfl);(case hr=>(go_simp;done));intro fW hg w5 b9 hb;have fH:=ah.mk (b9);have ag1:=ah.mk ((bZ:w.heap.size≤fW));have aa4:=ah.mk ((bZ:w.heap.size≤fW));replace HB:=ah.mk (aA aD hb);clear hb b9 hg)|((with_reducible refine bI (N:=7) rfl ?_);refine bR ?hg (N:=7) ?hd (cs:=#[.int .i64 0,.bool false,.slice none 0 0,.string (⟨#[]⟩:ByteArray),.string (⟨#[]⟩:ByteArray),.bool false,.slice none 0 0,.slice none 0 0,.int .i64 0]) (t:=34) ?hr ?_;(case hd=>rfl);(case hg=>rfl);(case hr=>(go_simp;done));intro dm hg w6 b9 hb;have bX:=ah.mk (b9);have ag2:=ah.mk ((bZ:w.heap.size≤dm));have aa3:=ah.mk ((bZ:w.heap.size≤dm));replace HB:=ah.mk (aA aD hb);have dO:=ah.mk ((by rw [hg];exact Nat.ne_of_lt (fu rB):fW≠dm));have pG:=ah.mk ((by rw [hg];exact Nat.ne_of_gt (fu rB):dm≠fW));replace fH:=ah.mk (aC rB hb);clear hb b9 hg;have aBc:=pG.out;have aBd:=dO.out;have Dh:w6.cell? ⟨dm,0,none⟩=some (.int .i64 0):=(af bX.out 0).trans rfl;have Di:w6.cell? ⟨dm,1,none⟩=some (.bool false):=(af bX.out 1).trans rfl;have Q4:w6.cell? ⟨dm,2,none⟩=some (.slice none 0 0):=(af bX.out 2).trans rfl;have adf:w6.cell? ⟨dm,3,none⟩=some (.string (⟨#[]⟩:ByteArray)):=(af bX.out 3).trans rfl;have adg:w6.cell? ⟨dm,4,none⟩=some (.string (⟨#[]⟩:ByteArray)):=(af bX.out 4).trans rfl;have adh:w6.cell? ⟨dm,5,none⟩=some (.bool false):=(af bX.out 5).trans rfl;have adi:w6.cell? ⟨dm,6,none⟩=some (.slice none 0 0):=(af bX.out 6).trans rfl;have adj:w6.cell? ⟨dm,7,none⟩=some (.slice none 0 0):=(af bX.out 7).trans rfl;have adk:w6.cell? ⟨dm,8,none⟩=some (.int .i64 0):=(af bX.out 8).trans rfl;have Dj:=aa bX.out 0;have Dk:=aa bX.out 1;have Q5:=aa bX.out 2;have adl:=aa bX.out 3;have adm:=aa bX.out 4;have adn:=aa bX.out 5;have ado:=aa bX.out 6;have adp:=aa bX.out 7;have adq:=aa bX.out 8))
  go_loopg [21] k (fun kq v21 w'=>∃ (kP:Int) (gA:List (iN)) (jE:Value),v21= .int .i64 kP∧ah (bC.l0 kq l2 (l2.length:Int) kP a0 true (⟨#[]⟩:ByteArray) (⟨#[]⟩:ByteArray) false gA 0=some (r1,r2,r3,r4,r5,r6,r7,r8,r9))∧ah (kq≤k)∧ah (Kd.R mV 37 w' w.heap.size (fun _ =>True) jE gA)∧ah (w'.heap[fW]? =some (.cells #[.int .i64 0,.bool false,(.slice none 0 0),.string (⟨#[]⟩:ByteArray),.string (⟨#[]⟩:ByteArray),.bool false,(.slice none 0 0),(.slice none 0 0),.int .i64 0] 34 (0,0)))∧ah (w'.heap[dm]? =some (.cells #[.int .i64 a0,.bool true,(.slice none 0 0),.string (⟨#[]⟩:ByteArray),.string (⟨#[]⟩:ByteArray),.bool false,jE,(.slice none 0 0),.int .i64 0] 34 (0,0)))∧ah (Below w.heap.size w w'))
  case atStart=>exact ⟨(0),(([]:List (iN))),(.slice none 0 0),(by rfl),H',⟨Nat.le_refl _⟩,⟨iQ⟩,⟨by refine aN ?_ dO.out _;refine aN ?_ dO.out _;refine aN ?_ dO.out _;refine aN ?_ dO.out _;refine aN ?_ dO.out _;refine aN ?_ dO.out _;refine aN ?_ dO.out _;refine aN ?_ dO.out _;refine aN ?_ dO.out _;refine aN ?_ dO.out _;refine aN ?_ dO.out _;refine aN ?_ dO.out _;refine aN ?_ dO.out _;refine aN ?_ dO.out _;exact fH.out⟩,⟨by refine aH (cs:=#[.int .i64 a0,.bool true,.slice none 0 0,.string (⟨#[]⟩:ByteArray),.string (⟨#[]⟩:ByteArray),.bool false,.slice none 0 0,.slice none 0 0,.int .i64 0]) ?_ 5 _ rfl;refine aH (cs:=#[.int .i64 a0,.bool true,.slice none 0 0,.string (⟨#[]⟩:ByteArray),.string (⟨#[98]⟩:ByteArray),.bool false,.slice none 0 0,.slice none 0 0,.int .i64 0]) ?_ 4 _ rfl;refine aH (cs:=#[.int .i64 a0,.bool true,.slice none 0 0,.string a1,.string (⟨#[98]⟩:ByteArray),.bool false,.slice none 0 0,.slice none 0 0,.int .i64 0]) ?_ 3 _ rfl;refine aH (cs:=#[.int .i64 a0,.bool true,.slice none 0 0,.string a1,.string (⟨#[98]⟩:ByteArray),.bool false,.slice none 0 0,.slice none 0 0,.int .i64 0]) ?_ 2 _ rfl;refine aH (cs:=#[.int .i64 a0,.bool false,.slice none 0 0,.string a1,.string (⟨#[98]⟩:ByteArray),.bool false,.slice none 0 0,.slice none 0 0,.int .i64 0]) ?_ 1 _ rfl;refine aH (cs:=#[.int .i64 a0,.bool false,.slice none 0 0,.string a1,.string (⟨#[98]⟩:ByteArray),.bool false,.slice none 0 0,.slice none 0 0,.int .i64 0]) ?_ 8 _ rfl;refine aH (cs:=#[.int .i64 a0,.bool false,.slice none 0 0,.string a1,.string (⟨#[98]⟩:ByteArray),.bool false,.slice none 0 0,.slice none 0 0,.int .i64 0]) ?_ 7 _ rfl;refine aH (cs:=#[.int .i64 a0,.bool false,.slice none 0 0,.string a1,.string (⟨#[98]⟩:ByteArray),.bool false,.slice none 0 0,.slice none 0 0,.int .i64 0]) ?_ 6 _ rfl;refine aH (cs:=#[.int .i64 a0,.bool false,.slice none 0 0,.string a1,.string (⟨#[98]⟩:ByteArray),.bool false,.slice none 0 0,.slice none 0 0,.int .i64 0]) ?_ 5 _ rfl;refine aH (cs:=#[.int .i64 a0,.bool false,.slice none 0 0,.string a1,.string (⟨#[]⟩:ByteArray),.bool false,.slice none 0 0,.slice none 0 0,.int .i64 0]) ?_ 4 _ rfl;refine aH (cs:=#[.int .i64 a0,.bool false,.slice none 0 0,.string (⟨#[]⟩:ByteArray),.string (⟨#[]⟩:ByteArray),.bool false,.slice none 0 0,.slice none 0 0,.int .i64 0]) ?_ 3 _ rfl;refine aH (cs:=#[.int .i64 a0,.bool false,.slice none 0 0,.string (⟨#[]⟩:ByteArray),.string (⟨#[]⟩:ByteArray),.bool false,.slice none 0 0,.slice none 0 0,.int .i64 0]) ?_ 2 _ rfl;refine aH (cs:=#[.int .i64 a0,.bool false,.slice none 0 0,.string (⟨#[]⟩:ByteArray),.string (⟨#[]⟩:ByteArray),.bool false,.slice none 0 0,.slice none 0 0,.int .i64 0]) ?_ 1 _ rfl;refine aH (cs:=#[.int .i64 0,.bool false,.slice none 0 0,.string (⟨#[]⟩:ByteArray),.string (⟨#[]⟩:ByteArray),.bool false,.slice none 0 0,.slice none 0 0,.int .i64 0]) ?_ 0 _ rfl;exact bX.out⟩,⟨CR⟩⟩
  case round=>
   clear H'
   obtain ⟨kP,gA,jE,rfl,HA,sw,jN,fH,bX,HB⟩:=hrel
   cases gk with
   |zero=>exact absurd HA.out (by simp [bC.l0])
   |succ k1=>
    have H:=HA.out
    clear HA
    simp only [bC.l0] at H
    by_cases c9:kP < (l2.length:Int)
    ·rw [if_pos c9] at H
     have Us:=decide_eq_true c9
     clear c9
     obtain ⟨c10,H⟩:=ld H
     have Bn:=decide_eq_true c10
     clear c10
     obtain ⟨c11,H⟩:=ld H
     have xN:=decide_eq_true c11
     clear c11
     obtain ⟨c12,H⟩:=ld H
     have QY:=ah.mk c12
     clear c12
     obtain ⟨Dl,Bo⟩:∃ y_:List (iN),y_=(gA ++ [(⟨(⟨qU ByteArray.empty l2 kP,(⟨#[99]⟩:ByteArray),false⟩:sD),0,0,0⟩:iN)]):=⟨_,rfl⟩
     replace H:(bC.l0 k1 l2 (l2.length:Int) (wrap64 (kP + 1)) a0 true (⟨#[]⟩:ByteArray) (⟨#[]⟩:ByteArray) false Dl 0)=some (r1,r2,r3,r4,r5,r6,r7,r8,r9):=by (rw [Bo];with_reducible exact H)
     have Q6:=ah.mk Bo
     clear Bo
     have H':=ah.mk H
     clear H
     have Jz: 0≤(kP:Int):=of_decide_eq_true cP
     have JA:kP < (l2.length:Int):=of_decide_eq_true cP
     obtain ⟨ag3,adr,tH⟩:=Kd.mM HR2.out kP Jz JA
     cases adr
     replace tH:=(HB.out.cell (World.block_lt_of_cell? w _ tH)).trans tH
     replace Jz:=eq_true Jz
     replace JA:=eq_true JA
     have aE4:=pG.out
     have aE5:=dO.out
     have Dm:wr.cell? ⟨dm,0,none⟩=some (.int .i64 a0):=(af bX.out 0).trans rfl
     have Dn:wr.cell? ⟨dm,1,none⟩=some (.bool true):=(af bX.out 1).trans rfl
     have Dp:wr.cell? ⟨dm,2,none⟩=some (.slice none 0 0):=(af bX.out 2).trans rfl
     have Dq:wr.cell? ⟨dm,3,none⟩=some (.string (⟨#[]⟩:ByteArray)):=(af bX.out 3).trans rfl
     have Dr:wr.cell? ⟨dm,4,none⟩=some (.string (⟨#[]⟩:ByteArray)):=(af bX.out 4).trans rfl
     have Ds:wr.cell? ⟨dm,5,none⟩=some (.bool false):=(af bX.out 5).trans rfl
     have Lm:wr.cell? ⟨dm,6,none⟩=some (jE):=(af bX.out 6).trans rfl
     have Lp:wr.cell? ⟨dm,7,none⟩=some (.slice none 0 0):=(af bX.out 7).trans rfl
     have Lq:wr.cell? ⟨dm,8,none⟩=some (.int .i64 0):=(af bX.out 8).trans rfl
     have Dt:=aa bX.out 0
     have Du:=aa bX.out 1
     have Dv:=aa bX.out 2
     have Dw:=aa bX.out 3
     have Dx:=aa bX.out 4
     have Dy:=aa bX.out 5
     have Lr:=aa bX.out 6
     have Ls:=aa bX.out 7
     have Lt:=aa bX.out 8
     go_wp2_with (((with_reducible refine oD (b:= .append) (xs:=#[.tmp 26,.tmp 30]) rfl ?_);at_builtin;refine Kd.uL mV (w0:=w) w.heap.size rfl (.tmp 26) (.tmp 30) 32 37 (.agg #[(.string ⟨#[]⟩),(.string ⟨#[]⟩),(.bool false),(.int .u8 0),(.int .i64 0),(.int .i64 0)]) 64 rfl Tryz.underlying32 Jw rfl bE ay jE gA (⟨(⟨qU ByteArray.empty l2 kP,(⟨#[99]⟩:ByteArray),false⟩:sD),0,0,0⟩:iN) [.string (qU ByteArray.empty l2 kP),.string (⟨#[99]⟩:ByteArray),.bool false,.int .u8 0,.int .i64 0,.int .i64 0] (fun _ =>True) (fun _ =>False) rfl rfl ?aP (fun _ hk=>hk.elim) ?aF ?aO ?aB ?aS ?aL ?_;(case aP=>exact tF _ _ _ (⟨(⟨qU ByteArray.empty l2 kP,(⟨#[99]⟩:ByteArray),false⟩:sD),0,0,0⟩:iN));(case aB=>exact aD);(case aF=>exact (fun _ _ =>trivial));(case aO=>exact (by exact jN.out));(case aS=>exact (bL aD));(case aL=>have:=QY.out;omega);intro aBe uC ho hb hg hat;rw [← Q6.out] at ho;replace fH:=ah.mk (gZ (g:=fW) (o:= .cells #[.int .i64 0,.bool false,.slice none 0 0,.string (⟨#[]⟩:ByteArray),.string (⟨#[]⟩:ByteArray),.bool false,.slice none 0 0,.slice none 0 0,.int .i64 0] 34 (0,0)) rB hg (Kd.zu jN.out fH.out bE));replace bX:=ah.mk (gZ (g:=dm) (o:= .cells #[.int .i64 a0,.bool true,.slice none 0 0,.string (⟨#[]⟩:ByteArray),.string (⟨#[]⟩:ByteArray),.bool false,jE,.slice none 0 0,.int .i64 0] 34 (0,0)) (by exact bX.out) hg (Kd.zu jN.out bX.out bE));replace HB:=ah.mk (hb);have H9:=ah.mk (ho);clear jN;clear ho hb hg hat;obtain ⟨ads,adt,adu⟩:=Kd.cM H9.out;subst adu;have Ut:uC.cell? ⟨dm,0,none⟩=some (.int .i64 a0):=(af bX.out 0).trans rfl;have Uu:uC.cell? ⟨dm,1,none⟩=some (.bool true):=(af bX.out 1).trans rfl;have aqO:uC.cell? ⟨dm,2,none⟩=some (.slice none 0 0):=(af bX.out 2).trans rfl;have aqP:uC.cell? ⟨dm,3,none⟩=some (.string (⟨#[]⟩:ByteArray)):=(af bX.out 3).trans rfl;have aqQ:uC.cell? ⟨dm,4,none⟩=some (.string (⟨#[]⟩:ByteArray)):=(af bX.out 4).trans rfl;have aqR:uC.cell? ⟨dm,5,none⟩=some (.bool false):=(af bX.out 5).trans rfl;have aqS:uC.cell? ⟨dm,6,none⟩=some (jE):=(af bX.out 6).trans rfl;have aqT:uC.cell? ⟨dm,7,none⟩=some (.slice none 0 0):=(af bX.out 7).trans rfl;have aqU:uC.cell? ⟨dm,8,none⟩=some (.int .i64 0):=(af bX.out 8).trans rfl;have Uv:=aa bX.out 0;have Uw:=aa bX.out 1;have aqV:=aa bX.out 2;have aqW:=aa bX.out 3;have aqX:=aa bX.out 4;have aqY:=aa bX.out 5;have aqZ:=aa bX.out 6;have aq0:=aa bX.out 7;have aq1:=aa bX.out 8))
     go_roundg k1
     case measure=>have:=sw.out;omega
     case rel=>exact ⟨(wrap64 (kP + 1)),(Dl),(.slice ads Dl.length adt),(by rfl),H',⟨lA⟩,⟨by exact Kd.cu (Kd.au (p:=⟨dm,6,none⟩) (Kd.cj H9.out bX.out bE) (fun _ hk=>hk.2) (.slice ads Dl.length adt)) (fun _ hk=>trivial)⟩,⟨by refine aN ?_ dO.out _;exact fH.out⟩,⟨by refine aH (cs:=#[.int .i64 a0,.bool true,.slice none 0 0,.string (⟨#[]⟩:ByteArray),.string (⟨#[]⟩:ByteArray),.bool false,jE,.slice none 0 0,.int .i64 0]) ?_ 6 _ rfl;exact bX.out⟩,⟨CR⟩⟩
    ·rw [if_neg c9] at H
     have Us:=decide_eq_false c9
     clear c9
     simp only [Option.some.injEq,Prod.mk.injEq] at H
     obtain ⟨rfl,rfl,rfl,rfl,rfl,rfl,rfl,rfl,rfl⟩:=H
     have ag4:=pG.out
     have ag5:=dO.out
     have Lu:wr.cell? ⟨dm,0,none⟩=some (.int .i64 a0):=(af bX.out 0).trans rfl
     have Lv:wr.cell? ⟨dm,1,none⟩=some (.bool true):=(af bX.out 1).trans rfl
     have Lx:wr.cell? ⟨dm,2,none⟩=some (.slice none 0 0):=(af bX.out 2).trans rfl
     have Lz:wr.cell? ⟨dm,3,none⟩=some (.string (⟨#[]⟩:ByteArray)):=(af bX.out 3).trans rfl
     have LA:wr.cell? ⟨dm,4,none⟩=some (.string (⟨#[]⟩:ByteArray)):=(af bX.out 4).trans rfl
     have LB:wr.cell? ⟨dm,5,none⟩=some (.bool false):=(af bX.out 5).trans rfl
     have LC:wr.cell? ⟨dm,6,none⟩=some (jE):=(af bX.out 6).trans rfl
     have LD:wr.cell? ⟨dm,7,none⟩=some (.slice none 0 0):=(af bX.out 7).trans rfl
     have LF:wr.cell? ⟨dm,8,none⟩=some (.int .i64 0):=(af bX.out 8).trans rfl
     have LG:=aa bX.out 0
     have LH:=aa bX.out 1
     have LI:=aa bX.out 2
     have LJ:=aa bX.out 3
     have LK:=aa bX.out 4
     have LL:=aa bX.out 5
     have LM:=aa bX.out 6
     have LN:=aa bX.out 7
     have LO:=aa bX.out 8
     have LP:wr.cell? ⟨fW,0,none⟩=some (.int .i64 0):=(af fH.out 0).trans rfl
     have LQ:wr.cell? ⟨fW,1,none⟩=some (.bool false):=(af fH.out 1).trans rfl
     have LR:wr.cell? ⟨fW,2,none⟩=some (.slice none 0 0):=(af fH.out 2).trans rfl
     have Ux:wr.cell? ⟨fW,3,none⟩=some (.string (⟨#[]⟩:ByteArray)):=(af fH.out 3).trans rfl
     have Uy:wr.cell? ⟨fW,4,none⟩=some (.string (⟨#[]⟩:ByteArray)):=(af fH.out 4).trans rfl
     have Uz:wr.cell? ⟨fW,5,none⟩=some (.bool false):=(af fH.out 5).trans rfl
     have UA:wr.cell? ⟨fW,6,none⟩=some (.slice none 0 0):=(af fH.out 6).trans rfl
     have UB:wr.cell? ⟨fW,7,none⟩=some (.slice none 0 0):=(af fH.out 7).trans rfl
     have UC:wr.cell? ⟨fW,8,none⟩=some (.int .i64 0):=(af fH.out 8).trans rfl
     have LS:=aa fH.out 0
     have LU:=aa fH.out 1
     have LV:=aa fH.out 2
     have UD:=aa fH.out 3
     have UE:=aa fH.out 4
     have UF:=aa fH.out 5
     have UG:=aa fH.out 6
     have UH:=aa fH.out 7
     have UI:=aa fH.out 8
     obtain ⟨fS,fT,adv⟩:=Kd.cM jN.out
     subst adv
     go_wp2
     refine bodyPost_ret (results_cell_row rfl _ _ fW 34 #[.int .i64 a0,.bool true,.slice none 0 0,.string (⟨#[]⟩:ByteArray),.string (⟨#[]⟩:ByteArray),.bool false,.slice fS gA.length fT,.slice none 0 0,.int .i64 0] (0,0) _ rfl (by refine aH (cs:=#[.int .i64 a0,.bool true,.slice none 0 0,.string (⟨#[]⟩:ByteArray),.string (⟨#[]⟩:ByteArray),.bool false,.slice fS gA.length fT,.slice none 0 0,.int .i64 0]) ?_ 8 _ rfl;refine aH (cs:=#[.int .i64 a0,.bool true,.slice none 0 0,.string (⟨#[]⟩:ByteArray),.string (⟨#[]⟩:ByteArray),.bool false,.slice fS gA.length fT,.slice none 0 0,.int .i64 0]) ?_ 7 _ rfl;refine aH (cs:=#[.int .i64 a0,.bool true,.slice none 0 0,.string (⟨#[]⟩:ByteArray),.string (⟨#[]⟩:ByteArray),.bool false,.slice none 0 0,.slice none 0 0,.int .i64 0]) ?_ 6 _ rfl;refine aH (cs:=#[.int .i64 a0,.bool true,.slice none 0 0,.string (⟨#[]⟩:ByteArray),.string (⟨#[]⟩:ByteArray),.bool false,.slice none 0 0,.slice none 0 0,.int .i64 0]) ?_ 5 _ rfl;refine aH (cs:=#[.int .i64 a0,.bool true,.slice none 0 0,.string (⟨#[]⟩:ByteArray),.string (⟨#[]⟩:ByteArray),.bool false,.slice none 0 0,.slice none 0 0,.int .i64 0]) ?_ 4 _ rfl;refine aH (cs:=#[.int .i64 a0,.bool true,.slice none 0 0,.string (⟨#[]⟩:ByteArray),.string (⟨#[]⟩:ByteArray),.bool false,.slice none 0 0,.slice none 0 0,.int .i64 0]) ?_ 3 _ rfl;refine aH (cs:=#[.int .i64 a0,.bool true,.slice none 0 0,.string (⟨#[]⟩:ByteArray),.string (⟨#[]⟩:ByteArray),.bool false,.slice none 0 0,.slice none 0 0,.int .i64 0]) ?_ 2 _ rfl;refine aH (cs:=#[.int .i64 a0,.bool false,.slice none 0 0,.string (⟨#[]⟩:ByteArray),.string (⟨#[]⟩:ByteArray),.bool false,.slice none 0 0,.slice none 0 0,.int .i64 0]) ?_ 1 _ rfl;refine aH (cs:=#[.int .i64 0,.bool false,.slice none 0 0,.string (⟨#[]⟩:ByteArray),.string (⟨#[]⟩:ByteArray),.bool false,.slice none 0 0,.slice none 0 0,.int .i64 0]) ?_ 0 _ rfl;exact fH.out) Tryz.underlying34 rfl aR) rfl ?_
     exact ⟨_,_,_,by rfl,iQ,by exact Kd.cu (Kd.au (p:=⟨fW,8,none⟩) (Kd.au (p:=⟨fW,7,none⟩) (Kd.au (p:=⟨fW,6,none⟩) (Kd.au (p:=⟨fW,5,none⟩) (Kd.au (p:=⟨fW,4,none⟩) (Kd.au (p:=⟨fW,3,none⟩) (Kd.au (p:=⟨fW,2,none⟩) (Kd.au (p:=⟨fW,1,none⟩) (Kd.au (p:=⟨fW,0,none⟩) (Kd.cj jN.out fH.out bE) (fun _ hk=>hk.2) (.int .i64 a0)) (fun _ hk=>hk.2) (.bool true)) (fun _ hk=>hk.2) (.slice none 0 0)) (fun _ hk=>hk.2) (.string (⟨#[]⟩:ByteArray))) (fun _ hk=>hk.2) (.string (⟨#[]⟩:ByteArray))) (fun _ hk=>hk.2) (.bool false)) (fun _ hk=>hk.2) (.slice fS gA.length fT)) (fun _ hk=>hk.2) (.slice none 0 0)) (fun _ hk=>hk.2) (.int .i64 0)) (fun _ hk=>trivial),iQ,KU⟩
 ·rw [if_neg c4] at H
  have oU:=beq_eq_false_iff_ne.mpr c4
  have Bl:=bne_iff_ne.mpr c4
  have H':=ah.mk H
  clear H
  go_enter Tryz.func14,Tryz.ntmps14
  go_wp2_with (first|((with_reducible refine bI (N:=6) rfl ?_);refine bR ?hg (N:=6) ?hd (cs:=#[.int .i64 0,.bool false,.slice none 0 0,.string (⟨#[]⟩:ByteArray),.string (⟨#[]⟩:ByteArray),.bool false,.slice none 0 0,.slice none 0 0,.int .i64 0]) (t:=34) ?hr ?_;(case hd=>rfl);(case hg=>rfl);(case hr=>(go_simp;done));intro fW hg zR b9 hb;have fH:=ah.mk (b9);have ag1:=ah.mk ((bZ:w.heap.size≤fW));have aa4:=ah.mk ((bZ:w.heap.size≤fW));replace HB:=ah.mk (aA aD hb);clear hb b9 hg)|((with_reducible refine bI (N:=7) rfl ?_);refine bR ?hg (N:=7) ?hd (cs:=#[.int .i64 0,.bool false,.slice none 0 0,.string (⟨#[]⟩:ByteArray),.string (⟨#[]⟩:ByteArray),.bool false,.slice none 0 0,.slice none 0 0,.int .i64 0]) (t:=34) ?hr ?_;(case hd=>rfl);(case hg=>rfl);(case hr=>(go_simp;done));intro dm hg Cc b9 hb;have bX:=ah.mk (b9);have ag2:=ah.mk ((bZ:w.heap.size≤dm));have aa3:=ah.mk ((bZ:w.heap.size≤dm));replace HB:=ah.mk (aA aD hb);have dO:=ah.mk ((by rw [hg];exact Nat.ne_of_lt (fu rB):fW≠dm));have pG:=ah.mk ((by rw [hg];exact Nat.ne_of_gt (fu rB):dm≠fW));replace fH:=ah.mk (aC rB hb);clear hb b9 hg;have aE6:=pG.out;have aE7:=dO.out;have Ak:Cc.cell? ⟨dm,0,none⟩=some (.int .i64 0):=(af bX.out 0).trans rfl;have Al:Cc.cell? ⟨dm,1,none⟩=some (.bool false):=(af bX.out 1).trans rfl;have Am:Cc.cell? ⟨dm,2,none⟩=some (.slice none 0 0):=(af bX.out 2).trans rfl;have Dz:Cc.cell? ⟨dm,3,none⟩=some (.string (⟨#[]⟩:ByteArray)):=(af bX.out 3).trans rfl;have DA:Cc.cell? ⟨dm,4,none⟩=some (.string (⟨#[]⟩:ByteArray)):=(af bX.out 4).trans rfl;have LW:Cc.cell? ⟨dm,5,none⟩=some (.bool false):=(af bX.out 5).trans rfl;have LX:Cc.cell? ⟨dm,6,none⟩=some (.slice none 0 0):=(af bX.out 6).trans rfl;have LY:Cc.cell? ⟨dm,7,none⟩=some (.slice none 0 0):=(af bX.out 7).trans rfl;have LZ:Cc.cell? ⟨dm,8,none⟩=some (.int .i64 0):=(af bX.out 8).trans rfl;have Ao:=aa bX.out 0;have Ap:=aa bX.out 1;have Aq:=aa bX.out 2;have DB:=aa bX.out 3;have DC:=aa bX.out 4;have L1:=aa bX.out 5;have L3:=aa bX.out 6;have L4:=aa bX.out 7;have L5:=aa bX.out 8))
  go_loopg [21] k (fun kq v21 w'=>∃ (kP:Int) (gA:List (iN)) (jE:Value),v21= .int .i64 kP∧ah (bC.l0 kq l2 (l2.length:Int) kP a0 false a1 (⟨#[98]⟩:ByteArray) false gA 0=some (r1,r2,r3,r4,r5,r6,r7,r8,r9))∧ah (kq≤k)∧ah (Kd.R mV 37 w' w.heap.size (fun _ =>True) jE gA)∧ah (w'.heap[fW]? =some (.cells #[.int .i64 0,.bool false,(.slice none 0 0),.string (⟨#[]⟩:ByteArray),.string (⟨#[]⟩:ByteArray),.bool false,(.slice none 0 0),(.slice none 0 0),.int .i64 0] 34 (0,0)))∧ah (w'.heap[dm]? =some (.cells #[.int .i64 a0,.bool false,(.slice none 0 0),.string a1,.string (⟨#[98]⟩:ByteArray),.bool false,jE,(.slice none 0 0),.int .i64 0] 34 (0,0)))∧ah (Below w.heap.size w w'))
  case atStart=>exact ⟨(0),(([]:List (iN))),(.slice none 0 0),(by rfl),H',⟨Nat.le_refl _⟩,⟨iQ⟩,⟨by refine aN ?_ dO.out _;refine aN ?_ dO.out _;refine aN ?_ dO.out _;refine aN ?_ dO.out _;refine aN ?_ dO.out _;refine aN ?_ dO.out _;refine aN ?_ dO.out _;refine aN ?_ dO.out _;refine aN ?_ dO.out _;exact fH.out⟩,⟨by refine aH (cs:=#[.int .i64 a0,.bool false,.slice none 0 0,.string a1,.string (⟨#[98]⟩:ByteArray),.bool false,.slice none 0 0,.slice none 0 0,.int .i64 0]) ?_ 8 _ rfl;refine aH (cs:=#[.int .i64 a0,.bool false,.slice none 0 0,.string a1,.string (⟨#[98]⟩:ByteArray),.bool false,.slice none 0 0,.slice none 0 0,.int .i64 0]) ?_ 7 _ rfl;refine aH (cs:=#[.int .i64 a0,.bool false,.slice none 0 0,.string a1,.string (⟨#[98]⟩:ByteArray),.bool false,.slice none 0 0,.slice none 0 0,.int .i64 0]) ?_ 6 _ rfl;refine aH (cs:=#[.int .i64 a0,.bool false,.slice none 0 0,.string a1,.string (⟨#[98]⟩:ByteArray),.bool false,.slice none 0 0,.slice none 0 0,.int .i64 0]) ?_ 5 _ rfl;refine aH (cs:=#[.int .i64 a0,.bool false,.slice none 0 0,.string a1,.string (⟨#[]⟩:ByteArray),.bool false,.slice none 0 0,.slice none 0 0,.int .i64 0]) ?_ 4 _ rfl;refine aH (cs:=#[.int .i64 a0,.bool false,.slice none 0 0,.string (⟨#[]⟩:ByteArray),.string (⟨#[]⟩:ByteArray),.bool false,.slice none 0 0,.slice none 0 0,.int .i64 0]) ?_ 3 _ rfl;refine aH (cs:=#[.int .i64 a0,.bool false,.slice none 0 0,.string (⟨#[]⟩:ByteArray),.string (⟨#[]⟩:ByteArray),.bool false,.slice none 0 0,.slice none 0 0,.int .i64 0]) ?_ 2 _ rfl;refine aH (cs:=#[.int .i64 a0,.bool false,.slice none 0 0,.string (⟨#[]⟩:ByteArray),.string (⟨#[]⟩:ByteArray),.bool false,.slice none 0 0,.slice none 0 0,.int .i64 0]) ?_ 1 _ rfl;refine aH (cs:=#[.int .i64 0,.bool false,.slice none 0 0,.string (⟨#[]⟩:ByteArray),.string (⟨#[]⟩:ByteArray),.bool false,.slice none 0 0,.slice none 0 0,.int .i64 0]) ?_ 0 _ rfl;exact bX.out⟩,⟨CR⟩⟩
  case round=>
   clear H'
   obtain ⟨kP,gA,jE,rfl,HA,sw,jN,fH,bX,HB⟩:=hrel
   cases gk with
   |zero=>exact absurd HA.out (by simp [bC.l0])
   |succ k1=>
    have H:=HA.out
    clear HA
    simp only [bC.l0] at H
    by_cases c26:kP < (l2.length:Int)
    ·rw [if_pos c26] at H
     have ag6:=decide_eq_true c26
     clear c26
     obtain ⟨T6,H⟩:=ld H
     have abh:=decide_eq_true T6
     clear T6
     obtain ⟨c28,H⟩:=ld H
     have aE8:=decide_eq_true c28
     clear c28
     obtain ⟨UJ,H⟩:=ld H
     have ag7:=ah.mk UJ
     clear UJ
     obtain ⟨Dl,Bo⟩:∃ y_:List (iN),y_=(gA ++ [(⟨(⟨qU ByteArray.empty l2 kP,(⟨#[99]⟩:ByteArray),false⟩:sD),0,0,0⟩:iN)]):=⟨_,rfl⟩
     replace H:(bC.l0 k1 l2 (l2.length:Int) (wrap64 (kP + 1)) a0 false a1 (⟨#[98]⟩:ByteArray) false Dl 0)=some (r1,r2,r3,r4,r5,r6,r7,r8,r9):=by (rw [Bo];with_reducible exact H)
     have Q6:=ah.mk Bo
     clear Bo
     have H':=ah.mk H
     clear H
     have Jz: 0≤(kP:Int):=of_decide_eq_true cP
     have JA:kP < (l2.length:Int):=of_decide_eq_true cP
     obtain ⟨ag3,adr,tH⟩:=Kd.mM HR2.out kP Jz JA
     cases adr
     replace tH:=(HB.out.cell (World.block_lt_of_cell? w _ tH)).trans tH
     replace Jz:=eq_true Jz
     replace JA:=eq_true JA
     have ag8:=pG.out
     have ag9:=dO.out
     have aq2:wr.cell? ⟨dm,0,none⟩=some (.int .i64 a0):=(af bX.out 0).trans rfl
     have aq3:wr.cell? ⟨dm,1,none⟩=some (.bool false):=(af bX.out 1).trans rfl
     have aq4:wr.cell? ⟨dm,2,none⟩=some (.slice none 0 0):=(af bX.out 2).trans rfl
     have aq5:wr.cell? ⟨dm,3,none⟩=some (.string a1):=(af bX.out 3).trans rfl
     have aq6:wr.cell? ⟨dm,4,none⟩=some (.string (⟨#[98]⟩:ByteArray)):=(af bX.out 4).trans rfl
     have aq7:wr.cell? ⟨dm,5,none⟩=some (.bool false):=(af bX.out 5).trans rfl
     have aq8:wr.cell? ⟨dm,6,none⟩=some (jE):=(af bX.out 6).trans rfl
     have aq9:wr.cell? ⟨dm,7,none⟩=some (.slice none 0 0):=(af bX.out 7).trans rfl
     have ara:wr.cell? ⟨dm,8,none⟩=some (.int .i64 0):=(af bX.out 8).trans rfl
     have arb:=aa bX.out 0
     have arc:=aa bX.out 1
     have ard:=aa bX.out 2
     have arf:=aa bX.out 3
     have arh:=aa bX.out 4
     have ari:=aa bX.out 5
     have arj:=aa bX.out 6
     have ark:=aa bX.out 7
     have arl:=aa bX.out 8
     go_wp2_with (((with_reducible refine oD (b:= .append) (xs:=#[.tmp 26,.tmp 30]) rfl ?_);at_builtin;refine Kd.uL mV (w0:=w) w.heap.size rfl (.tmp 26) (.tmp 30) 32 37 (.agg #[(.string ⟨#[]⟩),(.string ⟨#[]⟩),(.bool false),(.int .u8 0),(.int .i64 0),(.int .i64 0)]) 64 rfl Tryz.underlying32 Jw rfl bE ay jE gA (⟨(⟨qU ByteArray.empty l2 kP,(⟨#[99]⟩:ByteArray),false⟩:sD),0,0,0⟩:iN) [.string (qU ByteArray.empty l2 kP),.string (⟨#[99]⟩:ByteArray),.bool false,.int .u8 0,.int .i64 0,.int .i64 0] (fun _ =>True) (fun _ =>False) rfl rfl ?aP (fun _ hk=>hk.elim) ?aF ?aO ?aB ?aS ?aL ?_;(case aP=>exact tF _ _ _ (⟨(⟨qU ByteArray.empty l2 kP,(⟨#[99]⟩:ByteArray),false⟩:sD),0,0,0⟩:iN));(case aB=>exact aD);(case aF=>exact (fun _ _ =>trivial));(case aO=>exact (by exact jN.out));(case aS=>exact (bL aD));(case aL=>have:=ag7.out;omega);intro aBe mO ho hb hg hat;rw [← Q6.out] at ho;replace fH:=ah.mk (gZ (g:=fW) (o:= .cells #[.int .i64 0,.bool false,.slice none 0 0,.string (⟨#[]⟩:ByteArray),.string (⟨#[]⟩:ByteArray),.bool false,.slice none 0 0,.slice none 0 0,.int .i64 0] 34 (0,0)) rB hg (Kd.zu jN.out fH.out bE));replace bX:=ah.mk (gZ (g:=dm) (o:= .cells #[.int .i64 a0,.bool false,.slice none 0 0,.string a1,.string (⟨#[98]⟩:ByteArray),.bool false,jE,.slice none 0 0,.int .i64 0] 34 (0,0)) (by exact bX.out) hg (Kd.zu jN.out bX.out bE));replace HB:=ah.mk (hb);have H9:=ah.mk (ho);clear jN;clear ho hb hg hat;obtain ⟨aha,ahb,aBf⟩:=Kd.cM H9.out;subst aBf;have L6:mO.cell? ⟨dm,0,none⟩=some (.int .i64 a0):=(af bX.out 0).trans rfl;have L8:mO.cell? ⟨dm,1,none⟩=some (.bool false):=(af bX.out 1).trans rfl;have UK:mO.cell? ⟨dm,2,none⟩=some (.slice none 0 0):=(af bX.out 2).trans rfl;have UL:mO.cell? ⟨dm,3,none⟩=some (.string a1):=(af bX.out 3).trans rfl;have UM:mO.cell? ⟨dm,4,none⟩=some (.string (⟨#[98]⟩:ByteArray)):=(af bX.out 4).trans rfl;have UN:mO.cell? ⟨dm,5,none⟩=some (.bool false):=(af bX.out 5).trans rfl;have UO:mO.cell? ⟨dm,6,none⟩=some (jE):=(af bX.out 6).trans rfl;have UQ:mO.cell? ⟨dm,7,none⟩=some (.slice none 0 0):=(af bX.out 7).trans rfl;have UR:mO.cell? ⟨dm,8,none⟩=some (.int .i64 0):=(af bX.out 8).trans rfl;have L9:=aa bX.out 0;have Ma:=aa bX.out 1;have UT:=aa bX.out 2;have UU:=aa bX.out 3;have UW:=aa bX.out 4;have UX:=aa bX.out 5;have UY:=aa bX.out 6;have UZ:=aa bX.out 7;have U0:=aa bX.out 8))
     go_roundg k1
     case measure=>have:=sw.out;omega
     case rel=>exact ⟨(wrap64 (kP + 1)),(Dl),(.slice aha Dl.length ahb),(by rfl),H',⟨lA⟩,⟨by exact Kd.cu (Kd.au (p:=⟨dm,6,none⟩) (Kd.cj H9.out bX.out bE) (fun _ hk=>hk.2) (.slice aha Dl.length ahb)) (fun _ hk=>trivial)⟩,⟨by refine aN ?_ dO.out _;exact fH.out⟩,⟨by refine aH (cs:=#[.int .i64 a0,.bool false,.slice none 0 0,.string a1,.string (⟨#[98]⟩:ByteArray),.bool false,jE,.slice none 0 0,.int .i64 0]) ?_ 6 _ rfl;exact bX.out⟩,⟨CR⟩⟩
    ·rw [if_neg c26] at H
     have ag6:=decide_eq_false c26
     clear c26
     simp only [Option.some.injEq,Prod.mk.injEq] at H
     obtain ⟨rfl,rfl,rfl,rfl,rfl,rfl,rfl,rfl,rfl⟩:=H
     have aE9:=pG.out
     have aFa:=dO.out
     have U1:wr.cell? ⟨dm,0,none⟩=some (.int .i64 a0):=(af bX.out 0).trans rfl
     have U2:wr.cell? ⟨dm,1,none⟩=some (.bool false):=(af bX.out 1).trans rfl
     have U3:wr.cell? ⟨dm,2,none⟩=some (.slice none 0 0):=(af bX.out 2).trans rfl
     have U4:wr.cell? ⟨dm,3,none⟩=some (.string a1):=(af bX.out 3).trans rfl
     have U5:wr.cell? ⟨dm,4,none⟩=some (.string (⟨#[98]⟩:ByteArray)):=(af bX.out 4).trans rfl
     have U6:wr.cell? ⟨dm,5,none⟩=some (.bool false):=(af bX.out 5).trans rfl
     have U7:wr.cell? ⟨dm,6,none⟩=some (jE):=(af bX.out 6).trans rfl
     have U8:wr.cell? ⟨dm,7,none⟩=some (.slice none 0 0):=(af bX.out 7).trans rfl
     have U9:wr.cell? ⟨dm,8,none⟩=some (.int .i64 0):=(af bX.out 8).trans rfl
     have Va:=aa bX.out 0
     have Vb:=aa bX.out 1
     have Vc:=aa bX.out 2
     have Vd:=aa bX.out 3
     have Ve:=aa bX.out 4
     have Vf:=aa bX.out 5
     have Vg:=aa bX.out 6
     have Vh:=aa bX.out 7
     have Vi:=aa bX.out 8
     have Ar:wr.cell? ⟨fW,0,none⟩=some (.int .i64 0):=(af fH.out 0).trans rfl
     have Au:wr.cell? ⟨fW,1,none⟩=some (.bool false):=(af fH.out 1).trans rfl
     have Aw:wr.cell? ⟨fW,2,none⟩=some (.slice none 0 0):=(af fH.out 2).trans rfl
     have DD:wr.cell? ⟨fW,3,none⟩=some (.string (⟨#[]⟩:ByteArray)):=(af fH.out 3).trans rfl
     have DF:wr.cell? ⟨fW,4,none⟩=some (.string (⟨#[]⟩:ByteArray)):=(af fH.out 4).trans rfl
     have DG:wr.cell? ⟨fW,5,none⟩=some (.bool false):=(af fH.out 5).trans rfl
     have DI:wr.cell? ⟨fW,6,none⟩=some (.slice none 0 0):=(af fH.out 6).trans rfl
     have DJ:wr.cell? ⟨fW,7,none⟩=some (.slice none 0 0):=(af fH.out 7).trans rfl
     have DK:wr.cell? ⟨fW,8,none⟩=some (.int .i64 0):=(af fH.out 8).trans rfl
     have Ax:=aa fH.out 0
     have Ay:=aa fH.out 1
     have Az:=aa fH.out 2
     have DL:=aa fH.out 3
     have DM:=aa fH.out 4
     have DN:=aa fH.out 5
     have DR:=aa fH.out 6
     have DT:=aa fH.out 7
     have DU:=aa fH.out 8
     obtain ⟨Vj,Vk,aBg⟩:=Kd.cM jN.out
     subst aBg
     go_wp2
     refine bodyPost_ret (results_cell_row rfl _ _ fW 34 #[.int .i64 a0,.bool false,.slice none 0 0,.string a1,.string (⟨#[98]⟩:ByteArray),.bool false,.slice Vj gA.length Vk,.slice none 0 0,.int .i64 0] (0,0) _ rfl (by refine aH (cs:=#[.int .i64 a0,.bool false,.slice none 0 0,.string a1,.string (⟨#[98]⟩:ByteArray),.bool false,.slice Vj gA.length Vk,.slice none 0 0,.int .i64 0]) ?_ 8 _ rfl;refine aH (cs:=#[.int .i64 a0,.bool false,.slice none 0 0,.string a1,.string (⟨#[98]⟩:ByteArray),.bool false,.slice Vj gA.length Vk,.slice none 0 0,.int .i64 0]) ?_ 7 _ rfl;refine aH (cs:=#[.int .i64 a0,.bool false,.slice none 0 0,.string a1,.string (⟨#[98]⟩:ByteArray),.bool false,.slice none 0 0,.slice none 0 0,.int .i64 0]) ?_ 6 _ rfl;refine aH (cs:=#[.int .i64 a0,.bool false,.slice none 0 0,.string a1,.string (⟨#[98]⟩:ByteArray),.bool false,.slice none 0 0,.slice none 0 0,.int .i64 0]) ?_ 5 _ rfl;refine aH (cs:=#[.int .i64 a0,.bool false,.slice none 0 0,.string a1,.string (⟨#[]⟩:ByteArray),.bool false,.slice none 0 0,.slice none 0 0,.int .i64 0]) ?_ 4 _ rfl;refine aH (cs:=#[.int .i64 a0,.bool false,.slice none 0 0,.string (⟨#[]⟩:ByteArray),.string (⟨#[]⟩:ByteArray),.bool false,.slice none 0 0,.slice none 0 0,.int .i64 0]) ?_ 3 _ rfl;refine aH (cs:=#[.int .i64 a0,.bool false,.slice none 0 0,.string (⟨#[]⟩:ByteArray),.string (⟨#[]⟩:ByteArray),.bool false,.slice none 0 0,.slice none 0 0,.int .i64 0]) ?_ 2 _ rfl;refine aH (cs:=#[.int .i64 a0,.bool false,.slice none 0 0,.string (⟨#[]⟩:ByteArray),.string (⟨#[]⟩:ByteArray),.bool false,.slice none 0 0,.slice none 0 0,.int .i64 0]) ?_ 1 _ rfl;refine aH (cs:=#[.int .i64 0,.bool false,.slice none 0 0,.string (⟨#[]⟩:ByteArray),.string (⟨#[]⟩:ByteArray),.bool false,.slice none 0 0,.slice none 0 0,.int .i64 0]) ?_ 0 _ rfl;exact fH.out) Tryz.underlying34 rfl aR) rfl ?_
     exact ⟨_,_,_,by rfl,iQ,by exact Kd.cu (Kd.au (p:=⟨fW,8,none⟩) (Kd.au (p:=⟨fW,7,none⟩) (Kd.au (p:=⟨fW,6,none⟩) (Kd.au (p:=⟨fW,5,none⟩) (Kd.au (p:=⟨fW,4,none⟩) (Kd.au (p:=⟨fW,3,none⟩) (Kd.au (p:=⟨fW,2,none⟩) (Kd.au (p:=⟨fW,1,none⟩) (Kd.au (p:=⟨fW,0,none⟩) (Kd.cj jN.out fH.out bE) (fun _ hk=>hk.2) (.int .i64 a0)) (fun _ hk=>hk.2) (.bool false)) (fun _ hk=>hk.2) (.slice none 0 0)) (fun _ hk=>hk.2) (.string a1)) (fun _ hk=>hk.2) (.string (⟨#[98]⟩:ByteArray))) (fun _ hk=>hk.2) (.bool false)) (fun _ hk=>hk.2) (.slice Vj gA.length Vk)) (fun _ hk=>hk.2) (.slice none 0 0)) (fun _ hk=>hk.2) (.int .i64 0)) (fun _ hk=>trivial),iQ,KU⟩
end Go.Proofs.YtbjjaaodfbjkfaaGreatDoor.qb
