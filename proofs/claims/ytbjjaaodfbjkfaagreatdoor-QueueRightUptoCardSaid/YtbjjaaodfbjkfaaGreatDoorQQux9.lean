import Derived.Test.YtbjjaaodfbjkfaaGreatDoorQQux8
import Derived.Test.YtbjjaaodfbjkfaaGreatDoorWRepsOne
set_option maxHeartbeats 8000000
set_option maxRecDepth 100000
namespace Go.Proofs.YtbjjaaodfbjkfaaGreatDoor.mN
open Go.RowKit Go.Proofs.YtbjjaaodfbjkfaaGreatDoor.xV Go.Proofs.ak.bQ Go.Proofs.ak.dA Go.Proofs.ak.cX
attribute [local go_sem] jc jd j4 j5 gU gV je jf
set_option linter.unusedVariables false
set_option linter.unusedSimpArgs false
attribute [local go_sem high] Nj
def gK.f (k:Nat) (a0:ByteArray):Option (Bool):=(jk.f k a0).bind fun t190=>(some (!t190))
theorem gK.mono:∀ a0 k,eY (gK.f k a0) (gK.f (k + 1) a0):=by
 intro a0 k
 unfold gK.f
 repeat' (with_reducible first|exact jk.mono _ _|exact eY.refl _|refine eY.bind ?_ (fun _ =>?_))
theorem gK.calls (k:Nat) (a0:ByteArray) (r:Bool) (w:World) (hG:bp w) (h:gK.f k a0=some r):
 Calls Tryz.prog 144 #[.string a0] w fun e w'=>e= .returned (.bool r)∧Below w.heap.size w w':=by
 have HB:=ah.mk (Below.refl w.heap.size w)
 have HG:=ah.mk hG
 clear hG
 have H:((jk.f k a0).bind fun t190=>(some (!t190)))=some r:=h
 clear h
 obtain ⟨t190,A2,H⟩:=bd_ H
 obtain rfl:=Option.some.inj H
 go_enter Tryz.func144,Tryz.ntmps144
 go_wp2_with (((with_reducible refine bH (f:=145) rfl ?_);refine dx (some 4) rfl rfl Tryz.func145 aq rfl #[.string a0] rfl dI ?_;(with_reducible refine (jk.calls k a0 t190 _ ?bk A2.out).mono ?_);(case bk=>exact bp.below HG.out aJ);rintro e w3 ⟨rfl,hb⟩;refine ⟨_,rfl,?_⟩;replace HB:=ah.mk (ay aJ hb);(try clear hb)))
 go_ret
 exact ⟨by rfl,aJ⟩
def aM.l0:Nat→List ByteArray→Int→Int→Option (Int)
 | 0,_,_,_ =>none
 |k + 1,x0,x7,x8=>if x8 < x7 then (if 0≤x8 then (if x8 < (x0.length:Int) then ((gK.f k (nj ByteArray.empty x0 x8)).bind fun t192=>(if t192=true then (some x8) else (aM.l0 k x0 x7 (wrap64 (x8 + 1))))) else (none)) else (none)) else (some (-1))
def aM.f (k:Nat) (l0:List ByteArray):Option (Int):=aM.l0 k l0 (l0.length:Int) 0
theorem aM.ey:∀ k,(∀ y0 y1 y2,eY (aM.l0 k y0 y1 y2) (aM.l0 (k + 1) y0 y1 y2))
 | 0=>fun _ _ _ r h=>by simp [aM.l0] at h
 |k + 1=>by
  have mC:=aM.ey k
  ·intro y0 y1 y2
   unfold aM.l0
   repeat' (with_reducible first|exact mC _ _ _|exact gK.mono _ _|exact eY.refl _|refine eY.ite ?_ ?_|refine eY.bind ?_ (fun _ =>?_))
theorem aM.mono:∀ a0 k,eY (aM.f k a0) (aM.f (k + 1) a0):=by
 intro a0 k
 have mC:=aM.ey k
 unfold aM.f
 repeat' (with_reducible exact mC _ _ _)
theorem aM.calls (k:Nat) (A0:Option Addr) (c0:Nat) (l0:List ByteArray) (r:Int) (w:World) (nE:Kd.C Kd.string w A0 l0.length l0) (hc0:l0.length≤c0) (hG:bp w) (h:aM.f k l0=some r):
 Calls Tryz.prog 184 #[.slice A0 l0.length c0,.func (.func 144) #[] #[]] w fun e w'=>e= .returned (.int .i64 r)∧Below w.heap.size w w':=by
 have qZ:=ah.mk nE
 have E7:=ah.mk hc0
 clear nE hc0
 have HB:=ah.mk (Below.refl w.heap.size w)
 have HG:=ah.mk hG
 clear hG
 have H:(aM.l0 k l0 (l0.length:Int) 0)=some r:=h
 clear h
 have H':=ah.mk H
 clear H
 go_enter Tryz.func184,Tryz.ntmps184
 go_wp2
 go_loopg [8] k (fun kq v8 w'=>∃ (gi:Int),v8= .int .i64 gi∧ah (aM.l0 kq l0 (l0.length:Int) gi=some r)∧ah (kq≤k)∧ah (Below w.heap.size w w'))
 case atStart=>exact ⟨(0),(by rfl),H',⟨Nat.le_refl _⟩,⟨aJ⟩⟩
 case round=>
  clear H'
  obtain ⟨gi,rfl,HA,qi,HB⟩:=hrel
  cases gk with
  |zero=>exact absurd HA.out (by simp [aM.l0])
  |succ k1=>
   have H:=HA.out
   clear HA
   simp only [aM.l0] at H
   by_cases c3:gi < (l0.length:Int)
   ·rw [if_pos c3] at H
    have nr:=decide_eq_true c3
    clear c3
    obtain ⟨c4,H⟩:=lJ H
    have mo:=decide_eq_true c4
    clear c4
    obtain ⟨c5,H⟩:=lJ H
    have pG:=decide_eq_true c5
    clear c5
    obtain ⟨t192,A6,H⟩:=bd_ H
    by_cases c7:t192=true
    ·subst c7
     rw [if_pos rfl] at H
     obtain rfl:=Option.some.inj H
     have LI: 0≤(gi:Int):=of_decide_eq_true cu
     have LJ:gi < (l0.length:Int):=of_decide_eq_true cu
     obtain ⟨aen,abv,uo⟩:=Kd.jO qZ.out gi LI LJ
     cases abv
     replace uo:=(HB.out.cell (World.block_lt_of_cell? w _ uo)).trans uo
     replace LI:=eq_true LI
     replace LJ:=eq_true LJ
     go_wp2_with ((go_at_call 144;(with_reducible refine (gK.calls k1 (nj ByteArray.empty l0 gi) true _ ?bk A6.out).mono ?_);(case bk=>exact bp.below HG.out aJ);rintro e w8 ⟨rfl,hb⟩;replace HB:=ah.mk (ay aJ hb);(try clear hb)))
     go_ret
     exact ⟨by rfl,aJ⟩
    ·replace c7:=Bool.eq_false_iff.mpr c7
     subst c7
     rw [if_neg (show ¬ (false=true) by decide)] at H
     have H':=ah.mk H
     clear H
     have LI: 0≤(gi:Int):=of_decide_eq_true cu
     have LJ:gi < (l0.length:Int):=of_decide_eq_true cu
     obtain ⟨aen,abv,uo⟩:=Kd.jO qZ.out gi LI LJ
     cases abv
     replace uo:=(HB.out.cell (World.block_lt_of_cell? w _ uo)).trans uo
     replace LI:=eq_true LI
     replace LJ:=eq_true LJ
     go_wp2_with ((go_at_call 144;(with_reducible refine (gK.calls k1 (nj ByteArray.empty l0 gi) false _ ?bk A6.out).mono ?_);(case bk=>exact bp.below HG.out aJ);rintro e w9 ⟨rfl,hb⟩;replace HB:=ah.mk (ay aJ hb);(try clear hb)))
     go_roundg k1
     case measure=>have:=qi.out;omega
     case rel=>exact ⟨(wrap64 (gi + 1)),(by rfl),H',⟨lI⟩,⟨aJ⟩⟩
   ·rw [if_neg c3] at H
    have nr:=decide_eq_false c3
    clear c3
    obtain rfl:=Option.some.inj H
    go_wp2
    go_ret
    exact ⟨by rfl,aJ⟩
def bF.f (k:Nat) (l0:List ByteArray):Option (Bool):=(aM.f k l0).bind fun t193=>(some (decide (t193≥0)))
theorem bF.mono:∀ a0 k,eY (bF.f k a0) (bF.f (k + 1) a0):=by
 intro a0 k
 unfold bF.f
 repeat' (with_reducible first|exact aM.mono _ _|exact eY.refl _|refine eY.bind ?_ (fun _ =>?_))
theorem bF.calls (k:Nat) (A0:Option Addr) (c0:Nat) (l0:List ByteArray) (r:Bool) (w:World) (nE:Kd.C Kd.string w A0 l0.length l0) (hc0:l0.length≤c0) (hG:bp w) (h:bF.f k l0=some r):
 Calls Tryz.prog 140 #[.slice A0 l0.length c0,.func (.func 144) #[] #[]] w fun e w'=>e= .returned (.bool r)∧Below w.heap.size w w':=by
 have qZ:=ah.mk nE
 have E7:=ah.mk hc0
 clear nE hc0
 have HB:=ah.mk (Below.refl w.heap.size w)
 have HG:=ah.mk hG
 clear hG
 have H:((aM.f k l0).bind fun t193=>(some (decide (t193≥0))))=some r:=h
 clear h
 obtain ⟨t193,A3,H⟩:=bd_ H
 obtain rfl:=Option.some.inj H
 go_enter Tryz.func140,Tryz.ntmps140
 go_wp2_with (((with_reducible refine bH (f:=184) rfl ?_);refine dx (some 7) rfl rfl Tryz.func184 aq rfl #[.slice A0 l0.length c0,.func (.func 144) #[] #[]] rfl dI ?_;(with_reducible refine (aM.calls k _ _ l0 t193 _ ?bk ?bM ?cQ A3.out).mono ?_);(case bk=>repeat (exact qZ.out));(case bM=>exact E7.out);(case cQ=>exact bp.below HG.out aJ);rintro e w4 ⟨rfl,hb⟩;refine ⟨_,rfl,?_⟩;replace HB:=ah.mk (ay aJ hb);(try clear hb)))
 go_ret
 exact ⟨by rfl,aJ⟩
def dL.f (k:Nat) (bf:Bool) (aD:List ByteArray) (cE:ByteArray) (bE:ByteArray) (bK:Bool):Option (Bool):=if bf=true then (if (aD.length:Int)=0 then (some (cE.toList == ([]:List UInt8) && (bE.toList == ([]:List UInt8) && (!bK)))) else (some false)) else (if (cE.toList == ([112,111,115,116,109,97,115,116,101,114]:List UInt8) && (bE.toList == ([]:List UInt8) && (!bK)))=true then (some ((aD.length:Int) == 0)) else ((cI.f k cE bE bK).bind fun t195=>(if t195=true then (if (aD.length:Int)≤20 then ((bF.f k aD).bind fun t196=>(some (!t196))) else (some false)) else (some false))))
theorem dL.mono:∀ a0 a1 a2 a3 a4 k,eY (dL.f k a0 a1 a2 a3 a4) (dL.f (k + 1) a0 a1 a2 a3 a4):=by
 intro a0 a1 a2 a3 a4 k
 unfold dL.f
 repeat' (with_reducible first|exact cI.mono _ _ _ _|exact bF.mono _ _|exact eY.refl _|refine eY.ite ?_ ?_|refine eY.bind ?_ (fun _ =>?_))
theorem dL.calls (k:Nat) (bf:Bool) (iQ:Option Addr) (gJ:Nat) (aD:List ByteArray) (cE:ByteArray) (bE:ByteArray) (bK:Bool) (r:Bool) (w:World) (nR:Kd.C Kd.string w iQ aD.length aD) (nS:aD.length≤gJ) (hG:bp w) (h:dL.f k bf aD cE bE bK=some r):
 Calls Tryz.prog 95 #[.agg #[.bool bf,.slice iQ aD.length gJ,.string cE,.string bE,.bool bK]] w fun e w'=>e= .returned (.bool r)∧Below w.heap.size w w':=by
 have VA:=Tryz.underlying31
 have JW:=Tryz.underlying29
 have rH:=ah.mk nR
 have DJ:=ah.mk nS
 clear nR nS
 have HB:=ah.mk (Below.refl w.heap.size w)
 have HG:=ah.mk hG
 clear hG
 have H:(if bf=true then (if (aD.length:Int)=0 then (some (cE.toList == ([]:List UInt8) && (bE.toList == ([]:List UInt8) && (!bK)))) else (some false)) else (if (cE.toList == ([112,111,115,116,109,97,115,116,101,114]:List UInt8) && (bE.toList == ([]:List UInt8) && (!bK)))=true then (some ((aD.length:Int) == 0)) else ((cI.f k cE bE bK).bind fun t195=>(if t195=true then (if (aD.length:Int)≤20 then ((bF.f k aD).bind fun t196=>(some (!t196))) else (some false)) else (some false)))))=some r:=h
 clear h
 by_cases c2:bf=true
 ·subst c2
  rw [if_pos rfl] at H
  by_cases c3:(aD.length:Int)=0
  ·rw [if_pos c3] at H
   have nr:=beq_iff_eq.mpr c3
   have xk:=bne_eq_false_iff_eq.mpr c3
   clear c3
   obtain rfl:=Option.some.inj H
   go_enter Tryz.func95,Tryz.ntmps95
   go_wp2_with (((with_reducible refine bq (N:=1) rfl ?_);(try (refine bV (by rfl) ?_;dsimp only));refine br ?hg (N:=1) ?hd (cs:=#[.bool true,.slice iQ aD.length gJ,.string cE,.string bE,.bool bK]) (t:=31) ?hr ?_;(case hd=>rfl);(case hg=>rfl);(case hr=>(go_simp;done));intro fT hg w4 bJ hb;have dz:=ah.mk (bJ);have Kf:=ah.mk ((bI:w.heap.size≤fT));have Kg:=ah.mk ((bI:w.heap.size≤fT));replace HB:=ah.mk (ay aJ hb);clear hb bJ hg;have S4:w4.cell? ⟨fT,0,none⟩=some (.bool true):=(af dz.out 0).trans rfl;have S5:w4.cell? ⟨fT,1,none⟩=some (.slice iQ aD.length gJ):=(af dz.out 1).trans rfl;have abq:w4.cell? ⟨fT,2,none⟩=some (.string cE):=(af dz.out 2).trans rfl;have awF:w4.cell? ⟨fT,3,none⟩=some (.string bE):=(af dz.out 3).trans rfl;have awG:w4.cell? ⟨fT,4,none⟩=some (.bool bK):=(af dz.out 4).trans rfl;have S6:=aa dz.out 0;have S7:=aa dz.out 1;have abr:=aa dz.out 2;have awH:=aa dz.out 3;have awI:=aa dz.out 4))
   go_ret
   exact ⟨by rfl,aJ⟩
  ·rw [if_neg c3] at H
   have nr:=beq_eq_false_iff_ne.mpr c3
   have xk:=bne_iff_ne.mpr c3
   have QE: ¬ (aD= []):=fun h_ =>c3 (by rw [h_];rfl)
   obtain rfl:=Option.some.inj H
   go_enter Tryz.func95,Tryz.ntmps95
   go_wp2_with (((with_reducible refine bq (N:=1) rfl ?_);(try (refine bV (by rfl) ?_;dsimp only));refine br ?hg (N:=1) ?hd (cs:=#[.bool true,.slice iQ aD.length gJ,.string cE,.string bE,.bool bK]) (t:=31) ?hr ?_;(case hd=>rfl);(case hg=>rfl);(case hr=>(go_simp;done));intro fT hg w6 bJ hb;have dz:=ah.mk (bJ);have Kf:=ah.mk ((bI:w.heap.size≤fT));have Kg:=ah.mk ((bI:w.heap.size≤fT));replace HB:=ah.mk (ay aJ hb);clear hb bJ hg;have Gy:w6.cell? ⟨fT,0,none⟩=some (.bool true):=(af dz.out 0).trans rfl;have Gz:w6.cell? ⟨fT,1,none⟩=some (.slice iQ aD.length gJ):=(af dz.out 1).trans rfl;have Te:w6.cell? ⟨fT,2,none⟩=some (.string cE):=(af dz.out 2).trans rfl;have Tf:w6.cell? ⟨fT,3,none⟩=some (.string bE):=(af dz.out 3).trans rfl;have Tg:w6.cell? ⟨fT,4,none⟩=some (.bool bK):=(af dz.out 4).trans rfl;have GA:=aa dz.out 0;have GC:=aa dz.out 1;have Th:=aa dz.out 2;have Ti:=aa dz.out 3;have Tj:=aa dz.out 4))
   go_ret
   exact ⟨by rfl,aJ⟩
 ·replace c2:=Bool.eq_false_iff.mpr c2
  subst c2
  rw [if_neg (show ¬ (false=true) by decide)] at H
  by_cases c8:(cE.toList == ([112,111,115,116,109,97,115,116,101,114]:List UInt8) && (bE.toList == ([]:List UInt8) && (!bK)))=true
  ·rw [if_pos c8] at H
   have BF:(cE.toList == ([112,111,115,116,109,97,115,116,101,114]:List UInt8) && (bE.toList == ([]:List UInt8) && (!bK)))=true:=c8
   have c8e:(cE.toList == ([112,111,115,116,109,97,115,116,101,114]:List UInt8))=true∧bE.toList.isEmpty=true∧(!bK)=true:=by {have c_ :=c8;simp only [Bool.and_eq_true] at c_;obtain ⟨h1_,h2_,h3_⟩:=c_;exact ⟨h1_,by rw [beq_iff_eq] at h2_;rw [h2_];rfl,h3_⟩}
   obtain ⟨c8f,c8g,c8h⟩:=c8e
   (try (have Lp:decide (cE.toList=([112,111,115,116,109,97,115,116,101,114]:List UInt8) && (bE.toList == ([]:List UInt8) && (!bK)))=true:=by simpa using c8))
   (try (have abj:(cE.toList == ([112,111,115,116,109,97,115,116,101,114]:List UInt8) && (bE.toList == ([]:List UInt8) && (!bK)))=true:=by simpa using c8))
   clear c8
   obtain rfl:=Option.some.inj H
   go_enter Tryz.func95,Tryz.ntmps95
   go_wp2_with (((with_reducible refine bq (N:=1) rfl ?_);(try (refine bV (by rfl) ?_;dsimp only));refine br ?hg (N:=1) ?hd (cs:=#[.bool false,.slice iQ aD.length gJ,.string cE,.string bE,.bool bK]) (t:=31) ?hr ?_;(case hd=>rfl);(case hg=>rfl);(case hr=>(go_simp;done));intro fT hg w9 bJ hb;have dz:=ah.mk (bJ);have Kf:=ah.mk ((bI:w.heap.size≤fT));have Kg:=ah.mk ((bI:w.heap.size≤fT));replace HB:=ah.mk (ay aJ hb);clear hb bJ hg;have Gl:w9.cell? ⟨fT,0,none⟩=some (.bool false):=(af dz.out 0).trans rfl;have Gm:w9.cell? ⟨fT,1,none⟩=some (.slice iQ aD.length gJ):=(af dz.out 1).trans rfl;have Nk:w9.cell? ⟨fT,2,none⟩=some (.string cE):=(af dz.out 2).trans rfl;have Nl:w9.cell? ⟨fT,3,none⟩=some (.string bE):=(af dz.out 3).trans rfl;have Nn:w9.cell? ⟨fT,4,none⟩=some (.bool bK):=(af dz.out 4).trans rfl;have Gn:=aa dz.out 0;have Gp:=aa dz.out 1;have Np:=aa dz.out 2;have Nq:=aa dz.out 3;have Nr:=aa dz.out 4))
   go_ret
   exact ⟨by rfl,aJ⟩
  ·rw [if_neg c8] at H
   have c8e:((cE.toList == ([112,111,115,116,109,97,115,116,101,114]:List UInt8))=true∧bE.toList.isEmpty=true∧(!bK)=true)=False:=eq_false (fun ⟨h1_,h2_,h3_⟩=>c8 (by rw [h1_,show (bE.toList == ([]:List UInt8))=true from by rw [beq_iff_eq];exact List.isEmpty_iff.mp h2_,h3_];rfl))
   have BF:(cE.toList == ([112,111,115,116,109,97,115,116,101,114]:List UInt8) && (bE.toList == ([]:List UInt8) && (!bK)))=false:=by simpa using c8
   (try (have Lp:decide (cE.toList=([112,111,115,116,109,97,115,116,101,114]:List UInt8) && (bE.toList == ([]:List UInt8) && (!bK)))=false:=by simpa using c8))
   (try (have abj:(cE.toList == ([112,111,115,116,109,97,115,116,101,114]:List UInt8) && (bE.toList == ([]:List UInt8) && (!bK)))=false:=by simpa using c8))
   (try (have aws: ¬ (cE.toList=([112,111,115,116,109,97,115,116,101,114]:List UInt8) && (bE.toList == ([]:List UInt8) && (!bK))):=by simpa using c8))
   clear c8
   obtain ⟨t195,A11,H⟩:=bd_ H
   by_cases c12:t195=true
   ·subst c12
    rw [if_pos rfl] at H
    by_cases c13:(aD.length:Int)≤20
    ·rw [if_pos c13] at H
     have DG:=decide_eq_true c13
     have Ke:decide (aD.length≤20)=true:=decide_eq_true aA
     clear c13
     obtain ⟨t196,A14,H⟩:=bd_ H
     obtain rfl:=Option.some.inj H
     go_enter Tryz.func95,Tryz.ntmps95
     go_wp2_with (first|((with_reducible refine bq (N:=1) rfl ?_);(try (refine bV (by rfl) ?_;dsimp only));refine br ?hg (N:=1) ?hd (cs:=#[.bool false,.slice iQ aD.length gJ,.string cE,.string bE,.bool bK]) (t:=31) ?hr ?_;(case hd=>rfl);(case hg=>rfl);(case hr=>(go_simp;done));intro fT hg qJ bJ hb;have dz:=ah.mk (bJ);have Kf:=ah.mk ((bI:w.heap.size≤fT));have Kg:=ah.mk ((bI:w.heap.size≤fT));replace HB:=ah.mk (ay aJ hb);clear hb bJ hg;have za:qJ.cell? ⟨fT,0,none⟩=some (.bool false):=(af dz.out 0).trans rfl;have zb:qJ.cell? ⟨fT,1,none⟩=some (.slice iQ aD.length gJ):=(af dz.out 1).trans rfl;have ze:qJ.cell? ⟨fT,2,none⟩=some (.string cE):=(af dz.out 2).trans rfl;have zf:qJ.cell? ⟨fT,3,none⟩=some (.string bE):=(af dz.out 3).trans rfl;have zg:qJ.cell? ⟨fT,4,none⟩=some (.bool bK):=(af dz.out 4).trans rfl;have zh:=aa dz.out 0;have zi:=aa dz.out 1;have zj:=aa dz.out 2;have zk:=aa dz.out 3;have zl:=aa dz.out 4)|((with_reducible refine bH (f:=143) rfl ?_);refine dx (some 25) rfl rfl Tryz.func143 aq rfl #[.agg #[.string cE,.string bE,.bool bK]] rfl dI ?_;(with_reducible refine (cI.calls k cE bE bK true _ ?bk A11.out).mono ?_);(case bk=>exact bp.below HG.out aJ);rintro e sL ⟨rfl,hb⟩;refine ⟨_,rfl,?_⟩;replace dz:=ah.mk (az (by exact dz.out) hb);replace HB:=ah.mk (ay aJ hb);(try clear hb);have Cm:sL.cell? ⟨fT,0,none⟩=some (.bool false):=(af dz.out 0).trans rfl;have Cn:sL.cell? ⟨fT,1,none⟩=some (.slice iQ aD.length gJ):=(af dz.out 1).trans rfl;have Co:sL.cell? ⟨fT,2,none⟩=some (.string cE):=(af dz.out 2).trans rfl;have Cq:sL.cell? ⟨fT,3,none⟩=some (.string bE):=(af dz.out 3).trans rfl;have Cr:sL.cell? ⟨fT,4,none⟩=some (.bool bK):=(af dz.out 4).trans rfl;have Cs:=aa dz.out 0;have Ct:=aa dz.out 1;have Cu:=aa dz.out 2;have Cv:=aa dz.out 3;have Cw:=aa dz.out 4)|(go_at_call 140;(with_reducible refine (bF.calls k _ _ aD t196 _ ?bk ?bM ?cQ A14.out).mono ?_);(case bk=>repeat (exact (Kd.bD rH.out HB.out)));(case bM=>exact DJ.out);(case cQ=>exact bp.below HG.out aJ);rintro e w19 ⟨rfl,hb⟩;replace dz:=ah.mk (az (by exact dz.out) hb);replace HB:=ah.mk (ay aJ hb);(try clear hb)))
     try any_goals (exact (c8e.mp mz).elim)
     go_ret
     exact ⟨by rfl,aJ⟩
    ·rw [if_neg c13] at H
     have DG:=decide_eq_false c13
     have Ke:decide (aD.length≤20)=false:=decide_eq_false aA
     clear c13
     obtain rfl:=Option.some.inj H
     go_enter Tryz.func95,Tryz.ntmps95
     go_wp2_with (first|((with_reducible refine bq (N:=1) rfl ?_);(try (refine bV (by rfl) ?_;dsimp only));refine br ?hg (N:=1) ?hd (cs:=#[.bool false,.slice iQ aD.length gJ,.string cE,.string bE,.bool bK]) (t:=31) ?hr ?_;(case hd=>rfl);(case hg=>rfl);(case hr=>(go_simp;done));intro fT hg wj bJ hb;have dz:=ah.mk (bJ);have Kf:=ah.mk ((bI:w.heap.size≤fT));have Kg:=ah.mk ((bI:w.heap.size≤fT));replace HB:=ah.mk (ay aJ hb);clear hb bJ hg;have VB:wj.cell? ⟨fT,0,none⟩=some (.bool false):=(af dz.out 0).trans rfl;have VC:wj.cell? ⟨fT,1,none⟩=some (.slice iQ aD.length gJ):=(af dz.out 1).trans rfl;have VD:wj.cell? ⟨fT,2,none⟩=some (.string cE):=(af dz.out 2).trans rfl;have VE:wj.cell? ⟨fT,3,none⟩=some (.string bE):=(af dz.out 3).trans rfl;have VF:wj.cell? ⟨fT,4,none⟩=some (.bool bK):=(af dz.out 4).trans rfl;have VG:=aa dz.out 0;have VH:=aa dz.out 1;have VI:=aa dz.out 2;have VJ:=aa dz.out 3;have VK:=aa dz.out 4)|((with_reducible refine bH (f:=143) rfl ?_);refine dx (some 25) rfl rfl Tryz.func143 aq rfl #[.agg #[.string cE,.string bE,.bool bK]] rfl dI ?_;(with_reducible refine (cI.calls k cE bE bK true _ ?bk A11.out).mono ?_);(case bk=>exact bp.below HG.out aJ);rintro e UC ⟨rfl,hb⟩;refine ⟨_,rfl,?_⟩;replace dz:=ah.mk (az (by exact dz.out) hb);replace HB:=ah.mk (ay aJ hb);(try clear hb);have VL:UC.cell? ⟨fT,0,none⟩=some (.bool false):=(af dz.out 0).trans rfl;have VM:UC.cell? ⟨fT,1,none⟩=some (.slice iQ aD.length gJ):=(af dz.out 1).trans rfl;have VN:UC.cell? ⟨fT,2,none⟩=some (.string cE):=(af dz.out 2).trans rfl;have VO:UC.cell? ⟨fT,3,none⟩=some (.string bE):=(af dz.out 3).trans rfl;have VP:UC.cell? ⟨fT,4,none⟩=some (.bool bK):=(af dz.out 4).trans rfl;have VQ:=aa dz.out 0;have VR:=aa dz.out 1;have VS:=aa dz.out 2;have VT:=aa dz.out 3;have VU:=aa dz.out 4))
     try any_goals (exact (c8e.mp mz).elim)
     go_ret
     exact ⟨by rfl,aJ⟩
   ·replace c12:=Bool.eq_false_iff.mpr c12
    subst c12
    rw [if_neg (show ¬ (false=true) by decide)] at H
    obtain rfl:=Option.some.inj H
    go_enter Tryz.func95,Tryz.ntmps95
    go_wp2_with (first|((with_reducible refine bq (N:=1) rfl ?_);(try (refine bV (by rfl) ?_;dsimp only));refine br ?hg (N:=1) ?hd (cs:=#[.bool false,.slice iQ aD.length gJ,.string cE,.string bE,.bool bK]) (t:=31) ?hr ?_;(case hd=>rfl);(case hg=>rfl);(case hr=>(go_simp;done));intro fT hg xY bJ hb;have dz:=ah.mk (bJ);have Kf:=ah.mk ((bI:w.heap.size≤fT));have Kg:=ah.mk ((bI:w.heap.size≤fT));replace HB:=ah.mk (ay aJ hb);clear hb bJ hg;have CF:xY.cell? ⟨fT,0,none⟩=some (.bool false):=(af dz.out 0).trans rfl;have CG:xY.cell? ⟨fT,1,none⟩=some (.slice iQ aD.length gJ):=(af dz.out 1).trans rfl;have CH:xY.cell? ⟨fT,2,none⟩=some (.string cE):=(af dz.out 2).trans rfl;have GN:xY.cell? ⟨fT,3,none⟩=some (.string bE):=(af dz.out 3).trans rfl;have GP:xY.cell? ⟨fT,4,none⟩=some (.bool bK):=(af dz.out 4).trans rfl;have CI:=aa dz.out 0;have CJ:=aa dz.out 1;have CK:=aa dz.out 2;have GQ:=aa dz.out 3;have GR:=aa dz.out 4)|((with_reducible refine bH (f:=143) rfl ?_);refine dx (some 25) rfl rfl Tryz.func143 aq rfl #[.agg #[.string cE,.string bE,.bool bK]] rfl dI ?_;(with_reducible refine (cI.calls k cE bE bK false _ ?bk A11.out).mono ?_);(case bk=>exact bp.below HG.out aJ);rintro e K1 ⟨rfl,hb⟩;refine ⟨_,rfl,?_⟩;replace dz:=ah.mk (az (by exact dz.out) hb);replace HB:=ah.mk (ay aJ hb);(try clear hb)))
    try any_goals (exact (c8e.mp mz).elim)
    go_ret
    exact ⟨by rfl,aJ⟩
def lN.f (a0:Int):Option (Bool):=if a0 < 0 then (some true) else (some (decide (a0 > 1099511627776)))
theorem lN.calls (a0:Int) (r:Bool) (w:World) (h:lN.f a0=some r):
 Calls Tryz.prog 163 #[.int .i64 a0] w fun e w'=>e= .returned (.bool r)∧ij w w':=by
 have H:(if a0 < 0 then (some true) else (some (decide (a0 > 1099511627776))))=some r:=h
 clear h
 by_cases c2:a0 < 0
 ·rw [if_pos c2] at H
  have Ae:=decide_eq_true c2
  clear c2
  obtain rfl:=Option.some.inj H
  go_enter Tryz.func163,Tryz.ntmps163
  go_wp2
  go_ret
  exact ⟨by rfl,mj⟩
 ·rw [if_neg c2] at H
  have Ae:=decide_eq_false c2
  clear c2
  obtain rfl:=Option.some.inj H
  go_enter Tryz.func163,Tryz.ntmps163
  go_wp2
  go_ret
  exact ⟨by rfl,mj⟩
def aR.l0:Nat→List Int→Int→Int→Option (Int)
 | 0,_,_,_ =>none
 |k + 1,x0,x7,x8=>if x8 < x7 then (if 0≤x8 then (if x8 < (x0.length:Int) then ((lN.f (rd x0 x8)).bind fun t198=>(if t198=true then (some x8) else (aR.l0 k x0 x7 (wrap64 (x8 + 1))))) else (none)) else (none)) else (some (-1))
def aR.f (k:Nat) (l0:List Int):Option (Int):=aR.l0 k l0 (l0.length:Int) 0
theorem aR.ey:∀ k,(∀ y0 y1 y2,eY (aR.l0 k y0 y1 y2) (aR.l0 (k + 1) y0 y1 y2))
 | 0=>fun _ _ _ r h=>by simp [aR.l0] at h
 |k + 1=>by
  have mC:=aR.ey k
  ·intro y0 y1 y2
   unfold aR.l0
   repeat' (with_reducible first|exact mC _ _ _|exact eY.refl _|refine eY.ite ?_ ?_|refine eY.bind ?_ (fun _ =>?_))
theorem aR.mono:∀ a0 k,eY (aR.f k a0) (aR.f (k + 1) a0):=by
 intro a0 k
 have mC:=aR.ey k
 unfold aR.f
 repeat' (with_reducible exact mC _ _ _)
theorem aR.calls (k:Nat) (A0:Option Addr) (c0:Nat) (l0:List Int) (r:Int) (w:World) (nE:Kd.C (Kd.int .i64) w A0 l0.length l0) (hc0:l0.length≤c0) (h:aR.f k l0=some r):
 Calls Tryz.prog 129 #[.slice A0 l0.length c0,.func (.func 163) #[] #[]] w fun e w'=>e= .returned (.int .i64 r)∧ij w w':=by
 have qZ:=ah.mk nE
 have E7:=ah.mk hc0
 clear nE hc0
 have H:(aR.l0 k l0 (l0.length:Int) 0)=some r:=h
 clear h
 have H':=ah.mk H
 clear H
 go_enter Tryz.func129,Tryz.ntmps129
 go_wp2
 go_loopg [8] k (fun kq v8 w'=>∃ (gi:Int),v8= .int .i64 gi∧ah (aR.l0 kq l0 (l0.length:Int) gi=some r)∧ah (kq≤k)∧ij w w')
 case atStart=>exact ⟨(0),(by rfl),H',⟨Nat.le_refl _⟩,mj⟩
 case round=>
  clear H'
  obtain ⟨gi,rfl,HA,qi,⟨m1,rfl⟩⟩:=hrel
  cases gk with
  |zero=>exact absurd HA.out (by simp [aR.l0])
  |succ k1=>
   have H:=HA.out
   clear HA
   simp only [aR.l0] at H
   by_cases c3:gi < (l0.length:Int)
   ·rw [if_pos c3] at H
    have nr:=decide_eq_true c3
    clear c3
    obtain ⟨c4,H⟩:=lJ H
    have mo:=decide_eq_true c4
    clear c4
    obtain ⟨c5,H⟩:=lJ H
    have pG:=decide_eq_true c5
    clear c5
    obtain ⟨t198,A6,H⟩:=bd_ H
    by_cases c7:t198=true
    ·subst c7
     rw [if_pos rfl] at H
     obtain rfl:=Option.some.inj H
     have LK: 0≤(gi:Int):=of_decide_eq_true cu
     have LL:gi < (l0.length:Int):=of_decide_eq_true cu
     obtain ⟨aep,abx,VV⟩:=Kd.ud qZ.out gi LK LL
     cases abx
     replace LK:=eq_true LK
     replace LL:=eq_true LL
     go_wp2_with ((go_at_call 163;(with_reducible refine (lN.calls (rd l0 gi) true _ A6.out).mono ?_);rintro e w' ⟨rfl,⟨nd,rfl⟩⟩))
     go_ret
     exact ⟨by rfl,kI⟩
    ·replace c7:=Bool.eq_false_iff.mpr c7
     subst c7
     rw [if_neg (show ¬ (false=true) by decide)] at H
     have H':=ah.mk H
     clear H
     have LK: 0≤(gi:Int):=of_decide_eq_true cu
     have LL:gi < (l0.length:Int):=of_decide_eq_true cu
     obtain ⟨aep,abx,VV⟩:=Kd.ud qZ.out gi LK LL
     cases abx
     replace LK:=eq_true LK
     replace LL:=eq_true LL
     go_wp2_with ((go_at_call 163;(with_reducible refine (lN.calls (rd l0 gi) false _ A6.out).mono ?_);rintro e w' ⟨rfl,⟨nd,rfl⟩⟩))
     go_roundg k1
     case measure=>have:=qi.out;omega
     case rel=>exact ⟨(wrap64 (gi + 1)),(by rfl),H',⟨lI⟩,kI⟩
   ·rw [if_neg c3] at H
    have nr:=decide_eq_false c3
    clear c3
    obtain rfl:=Option.some.inj H
    go_wp2
    go_ret
    exact ⟨by rfl,kI⟩
def bZ.f (k:Nat) (l0:List Int):Option (Bool):=(aR.f k l0).bind fun t199=>(some (decide (t199≥0)))
theorem bZ.mono:∀ a0 k,eY (bZ.f k a0) (bZ.f (k + 1) a0):=by
 intro a0 k
 unfold bZ.f
 repeat' (with_reducible first|exact aR.mono _ _|exact eY.refl _|refine eY.bind ?_ (fun _ =>?_))
theorem bZ.calls (k:Nat) (A0:Option Addr) (c0:Nat) (l0:List Int) (r:Bool) (w:World) (nE:Kd.C (Kd.int .i64) w A0 l0.length l0) (hc0:l0.length≤c0) (h:bZ.f k l0=some r):
 Calls Tryz.prog 85 #[.slice A0 l0.length c0,.func (.func 163) #[] #[]] w fun e w'=>e= .returned (.bool r)∧ij w w':=by
 have qZ:=ah.mk nE
 have E7:=ah.mk hc0
 clear nE hc0
 have H:((aR.f k l0).bind fun t199=>(some (decide (t199≥0))))=some r:=h
 clear h
 obtain ⟨t199,A3,H⟩:=bd_ H
 obtain rfl:=Option.some.inj H
 go_enter Tryz.func85,Tryz.ntmps85
 go_wp2_with (((with_reducible refine bH (f:=129) rfl ?_);refine dx (some 7) rfl rfl Tryz.func129 aq rfl #[.slice A0 l0.length c0,.func (.func 163) #[] #[]] rfl dI ?_;(with_reducible refine (aR.calls k _ _ l0 t199 _ ?bk ?bM A3.out).mono ?_);(case bk=>repeat (exact qZ.out));(case bM=>exact E7.out);rintro e w' ⟨rfl,⟨nd,rfl⟩⟩;refine ⟨_,rfl,?_⟩))
 go_ret
 exact ⟨by rfl,kI⟩
def cR.f (k:Nat) (l0:List Int):Option (Bool):=(bZ.f k l0).bind fun t200=>(some (!t200))
theorem cR.mono:∀ a0 k,eY (cR.f k a0) (cR.f (k + 1) a0):=by
 intro a0 k
 unfold cR.f
 repeat' (with_reducible first|exact bZ.mono _ _|exact eY.refl _|refine eY.bind ?_ (fun _ =>?_))
theorem cR.calls (k:Nat) (A0:Option Addr) (c0:Nat) (l0:List Int) (r:Bool) (w:World) (nE:Kd.C (Kd.int .i64) w A0 l0.length l0) (hc0:l0.length≤c0) (h:cR.f k l0=some r):
 Calls Tryz.prog 102 #[.slice A0 l0.length c0] w fun e w'=>e= .returned (.bool r)∧ij w w':=by
 have qZ:=ah.mk nE
 have E7:=ah.mk hc0
 clear nE hc0
 have H:((bZ.f k l0).bind fun t200=>(some (!t200)))=some r:=h
 clear h
 obtain ⟨t200,A2,H⟩:=bd_ H
 obtain rfl:=Option.some.inj H
 go_enter Tryz.func102,Tryz.ntmps102
 go_wp2_with (((with_reducible refine bH (f:=85) rfl ?_);refine dx (some 4) rfl rfl Tryz.func85 aq rfl #[.slice A0 l0.length c0,.func (.func 163) #[] #[]] rfl dI ?_;(with_reducible refine (bZ.calls k _ _ l0 t200 _ ?bk ?bM A2.out).mono ?_);(case bk=>repeat (exact qZ.out));(case bM=>exact E7.out);rintro e w' ⟨rfl,⟨nd,rfl⟩⟩;refine ⟨_,rfl,?_⟩))
 go_ret
 exact ⟨by rfl,kI⟩
def jZ.f (k:Nat) (bf:ByteArray) (bP:ByteArray) (cE:Bool) (bE:Int) (bK:Int) (bU:Int):Option (Bool):=(dL.f k false ([]:List ByteArray) bf bP cE).bind fun t202=>(if t202=true then (if bE≤2 then ((cR.f k (([bK,bU]:List Int))).bind fun t206=>(some t206)) else (some false)) else (some false))
theorem jZ.mono:∀ a0 a1 a2 a3 a4 a5 k,eY (jZ.f k a0 a1 a2 a3 a4 a5) (jZ.f (k + 1) a0 a1 a2 a3 a4 a5):=by
 intro a0 a1 a2 a3 a4 a5 k
 unfold jZ.f
 repeat' (with_reducible first|exact dL.mono _ _ _ _ _ _|exact cR.mono _ _|exact eY.refl _|refine eY.ite ?_ ?_|refine eY.bind ?_ (fun _ =>?_))
theorem jZ.calls (k:Nat) (bf:ByteArray) (bP:ByteArray) (cE:Bool) (bE:Int) (bK:Int) (bU:Int) (r:Bool) (w:World) (hG:bp w) (h:jZ.f k bf bP cE bE bK bU=some r):
 Calls Tryz.prog 118 #[.agg #[.string bf,.string bP,.bool cE,.int .u8 bE,.int .i64 bK,.int .i64 bU]] w fun e w'=>e= .returned (.bool r)∧Below w.heap.size w w':=by
 have LM:=Tryz.underlying37
 have JW:=Tryz.underlying29
 have VA:=Tryz.underlying31
 have HB:=ah.mk (Below.refl w.heap.size w)
 have HG:=ah.mk hG
 clear hG
 have H:((dL.f k false ([]:List ByteArray) bf bP cE).bind fun t202=>(if t202=true then (if bE≤2 then ((cR.f k (([bK,bU]:List Int))).bind fun t206=>(some t206)) else (some false)) else (some false)))=some r:=h
 clear h
 obtain ⟨t202,A2,H⟩:=bd_ H
 by_cases c3:t202=true
 ·subst c3
  rw [if_pos rfl] at H
  by_cases c4:bE≤2
  ·rw [if_pos c4] at H
   have mo:=decide_eq_true c4
   clear c4
   obtain ⟨aer,Tk⟩:∃ y_:List Int,y_=(([bK,bU]:List Int)):=⟨_,rfl⟩
   replace H:((cR.f k aer).bind fun t206=>(some t206))=some r:=by (rw [Tk];with_reducible exact H)
   have aes:=ah.mk Tk
   clear Tk
   obtain ⟨t206,A5,H⟩:=bd_ H
   obtain rfl:=Option.some.inj H
   go_enter Tryz.func118,Tryz.ntmps118
   go_wp2_with (first|((with_reducible refine bq (N:=1) rfl ?_);(try (refine bV (by rfl) ?_;dsimp only));refine br ?hg (N:=1) ?hd (cs:=#[.string bf,.string bP,.bool cE,.int .u8 bE,.int .i64 bK,.int .i64 bU]) (t:=37) ?hr ?_;(case hd=>rfl);(case hg=>rfl);(case hr=>(go_simp;done));intro iY hg w6 bJ hb;have eX:=ah.mk (bJ);have aaf:=ah.mk ((bI:w.heap.size≤iY));have aag:=ah.mk ((bI:w.heap.size≤iY));replace HB:=ah.mk (ay aJ hb);clear hb bJ hg;have Gy:w6.cell? ⟨iY,0,none⟩=some (.string bf):=(af eX.out 0).trans rfl;have Gz:w6.cell? ⟨iY,1,none⟩=some (.string bP):=(af eX.out 1).trans rfl;have Te:w6.cell? ⟨iY,2,none⟩=some (.bool cE):=(af eX.out 2).trans rfl;have Tf:w6.cell? ⟨iY,3,none⟩=some (.int .u8 bE):=(af eX.out 3).trans rfl;have Tg:w6.cell? ⟨iY,4,none⟩=some (.int .i64 bK):=(af eX.out 4).trans rfl;have aby:w6.cell? ⟨iY,5,none⟩=some (.int .i64 bU):=(af eX.out 5).trans rfl;have GA:=aa eX.out 0;have GC:=aa eX.out 1;have Th:=aa eX.out 2;have Ti:=aa eX.out 3;have Tj:=aa eX.out 4;have abz:=aa eX.out 5)|((with_reducible refine bH (f:=95) rfl ?_);refine dx (some 6) rfl rfl Tryz.func95 aq rfl #[.agg #[.bool false,.slice none 0 0,.string bf,.string bP,.bool cE]] rfl dI ?_;(refine (dL.calls k false _ _ ([]:List ByteArray) bf bP cE true _ ?bk ?bM ?cQ A2.out).mono ?_);(case bk=>exact Kd.lf _ _);(case bM=>exact Nat.le_refl _);(case cQ=>exact bp.below HG.out aJ);rintro e w8 ⟨rfl,hb⟩;refine ⟨_,rfl,?_⟩;replace eX:=ah.mk (az (by exact eX.out) hb);replace HB:=ah.mk (ay aJ hb);(try clear hb);have Af:w8.cell? ⟨iY,0,none⟩=some (.string bf):=(af eX.out 0).trans rfl;have Ag:w8.cell? ⟨iY,1,none⟩=some (.string bP):=(af eX.out 1).trans rfl;have Tc:w8.cell? ⟨iY,2,none⟩=some (.bool cE):=(af eX.out 2).trans rfl;have abA:w8.cell? ⟨iY,3,none⟩=some (.int .u8 bE):=(af eX.out 3).trans rfl;have abB:w8.cell? ⟨iY,4,none⟩=some (.int .i64 bK):=(af eX.out 4).trans rfl;have abC:w8.cell? ⟨iY,5,none⟩=some (.int .i64 bU):=(af eX.out 5).trans rfl;have Ah:=aa eX.out 0;have Ai:=aa eX.out 1;have Td:=aa eX.out 2;have abD:=aa eX.out 3;have abE:=aa eX.out 4;have abF:=aa eX.out 5)|((with_reducible refine bq (N:=17) rfl ?_);(try (refine bV (by rfl) ?_;dsimp only));refine Kd.mG (Kd.int .i64) _ 3 ?hg (N:=17) ?hd (xs:=([bK,bU]:List Int)) (inner:=[.int .i64 bK,.int .i64 bU]) (ok:=fun _ =>True) (pN:=fun _ =>True) ?hr ?hp (fun _ hk=>hk) trivial (Below.refl _ _) (Nat.le_refl _) cP ?_;(case hd=>rfl);(case hg=>rfl);(case hr=>(go_simp;done));(case hp=>exact (dK.one (show Kd.M (Kd.int .i64) _ _ _ bK [.int .i64 bK] from rfl) (dK.one (show Kd.M (Kd.int .i64) _ _ _ bU [.int .i64 bU] from rfl) (dK.none _ _))));intro aCq mR abG hb ru gN;clear ru gN;(rw [← aes.out] at abG);have Tm:=ah.mk (Kd.dW abG (cg aJ));replace eX:=ah.mk (az (by exact eX.out) hb);replace HB:=ah.mk (ay aJ hb);clear hb abG;obtain ⟨aCr,aCs,awJ⟩:=Kd.dh Tm.out;subst awJ)|(go_at_call 102;(with_reducible refine (cR.calls k _ _ aer t206 _ ?bk ?bM A5.out).mono ?_);(case bk=>repeat (exact (Kd.ck Tm.out).2.2));(case bM=>exact (Kd.ck Tm.out).2.1);rintro e w' ⟨rfl,⟨nd,rfl⟩⟩))
   go_ret
   exact ⟨by rfl,dY⟩
  ·rw [if_neg c4] at H
   have mo:=decide_eq_false c4
   clear c4
   obtain rfl:=Option.some.inj H
   go_enter Tryz.func118,Tryz.ntmps118
   go_wp2_with (first|((with_reducible refine bq (N:=1) rfl ?_);(try (refine bV (by rfl) ?_;dsimp only));refine br ?hg (N:=1) ?hd (cs:=#[.string bf,.string bP,.bool cE,.int .u8 bE,.int .i64 bK,.int .i64 bU]) (t:=37) ?hr ?_;(case hd=>rfl);(case hg=>rfl);(case hr=>(go_simp;done));intro iY hg ko bJ hb;have eX:=ah.mk (bJ);have aaf:=ah.mk ((bI:w.heap.size≤iY));have aag:=ah.mk ((bI:w.heap.size≤iY));replace HB:=ah.mk (ay aJ hb);clear hb bJ hg;have wR:ko.cell? ⟨iY,0,none⟩=some (.string bf):=(af eX.out 0).trans rfl;have wS:ko.cell? ⟨iY,1,none⟩=some (.string bP):=(af eX.out 1).trans rfl;have yR:ko.cell? ⟨iY,2,none⟩=some (.bool cE):=(af eX.out 2).trans rfl;have yS:ko.cell? ⟨iY,3,none⟩=some (.int .u8 bE):=(af eX.out 3).trans rfl;have yT:ko.cell? ⟨iY,4,none⟩=some (.int .i64 bK):=(af eX.out 4).trans rfl;have yU:ko.cell? ⟨iY,5,none⟩=some (.int .i64 bU):=(af eX.out 5).trans rfl;have wT:=aa eX.out 0;have wU:=aa eX.out 1;have yV:=aa eX.out 2;have yX:=aa eX.out 3;have yY:=aa eX.out 4;have yZ:=aa eX.out 5)|((with_reducible refine bH (f:=95) rfl ?_);refine dx (some 6) rfl rfl Tryz.func95 aq rfl #[.agg #[.bool false,.slice none 0 0,.string bf,.string bP,.bool cE]] rfl dI ?_;(refine (dL.calls k false _ _ ([]:List ByteArray) bf bP cE true _ ?bk ?bM ?cQ A2.out).mono ?_);(case bk=>exact Kd.lf _ _);(case bM=>exact Nat.le_refl _);(case cQ=>exact bp.below HG.out aJ);rintro e qJ ⟨rfl,hb⟩;refine ⟨_,rfl,?_⟩;replace eX:=ah.mk (az (by exact eX.out) hb);replace HB:=ah.mk (ay aJ hb);(try clear hb);have za:qJ.cell? ⟨iY,0,none⟩=some (.string bf):=(af eX.out 0).trans rfl;have zb:qJ.cell? ⟨iY,1,none⟩=some (.string bP):=(af eX.out 1).trans rfl;have ze:qJ.cell? ⟨iY,2,none⟩=some (.bool cE):=(af eX.out 2).trans rfl;have zf:qJ.cell? ⟨iY,3,none⟩=some (.int .u8 bE):=(af eX.out 3).trans rfl;have zg:qJ.cell? ⟨iY,4,none⟩=some (.int .i64 bK):=(af eX.out 4).trans rfl;have Ck:qJ.cell? ⟨iY,5,none⟩=some (.int .i64 bU):=(af eX.out 5).trans rfl;have zh:=aa eX.out 0;have zi:=aa eX.out 1;have zj:=aa eX.out 2;have zk:=aa eX.out 3;have zl:=aa eX.out 4;have Cl:=aa eX.out 5))
   go_ret
   exact ⟨by rfl,aJ⟩
 ·replace c3:=Bool.eq_false_iff.mpr c3
  subst c3
  rw [if_neg (show ¬ (false=true) by decide)] at H
  obtain rfl:=Option.some.inj H
  go_enter Tryz.func118,Tryz.ntmps118
  go_wp2_with (first|((with_reducible refine bq (N:=1) rfl ?_);(try (refine bV (by rfl) ?_;dsimp only));refine br ?hg (N:=1) ?hd (cs:=#[.string bf,.string bP,.bool cE,.int .u8 bE,.int .i64 bK,.int .i64 bU]) (t:=37) ?hr ?_;(case hd=>rfl);(case hg=>rfl);(case hr=>(go_simp;done));intro iY hg sL bJ hb;have eX:=ah.mk (bJ);have aaf:=ah.mk ((bI:w.heap.size≤iY));have aag:=ah.mk ((bI:w.heap.size≤iY));replace HB:=ah.mk (ay aJ hb);clear hb bJ hg;have Cm:sL.cell? ⟨iY,0,none⟩=some (.string bf):=(af eX.out 0).trans rfl;have Cn:sL.cell? ⟨iY,1,none⟩=some (.string bP):=(af eX.out 1).trans rfl;have Co:sL.cell? ⟨iY,2,none⟩=some (.bool cE):=(af eX.out 2).trans rfl;have Cq:sL.cell? ⟨iY,3,none⟩=some (.int .u8 bE):=(af eX.out 3).trans rfl;have Cr:sL.cell? ⟨iY,4,none⟩=some (.int .i64 bK):=(af eX.out 4).trans rfl;have Gw:sL.cell? ⟨iY,5,none⟩=some (.int .i64 bU):=(af eX.out 5).trans rfl;have Cs:=aa eX.out 0;have Ct:=aa eX.out 1;have Cu:=aa eX.out 2;have Cv:=aa eX.out 3;have Cw:=aa eX.out 4;have Gx:=aa eX.out 5)|((with_reducible refine bH (f:=95) rfl ?_);refine dx (some 6) rfl rfl Tryz.func95 aq rfl #[.agg #[.bool false,.slice none 0 0,.string bf,.string bP,.bool cE]] rfl dI ?_;(refine (dL.calls k false _ _ ([]:List ByteArray) bf bP cE false _ ?bk ?bM ?cQ A2.out).mono ?_);(case bk=>exact Kd.lf _ _);(case bM=>exact Nat.le_refl _);(case cQ=>exact bp.below HG.out aJ);rintro e w19 ⟨rfl,hb⟩;refine ⟨_,rfl,?_⟩;replace eX:=ah.mk (az (by exact eX.out) hb);replace HB:=ah.mk (ay aJ hb);(try clear hb)))
  go_ret
  exact ⟨by rfl,aJ⟩
def gY.f (k:Nat) (bf:ByteArray) (bP:ByteArray) (cE:Bool) (bE:Int) (bK:Int) (bU:Int):Option (Bool):=(jZ.f k bf bP cE bE bK bU).bind fun t208=>(some (!t208))
theorem gY.mono:∀ a0 a1 a2 a3 a4 a5 k,eY (gY.f k a0 a1 a2 a3 a4 a5) (gY.f (k + 1) a0 a1 a2 a3 a4 a5):=by
 intro a0 a1 a2 a3 a4 a5 k
 unfold gY.f
 repeat' (with_reducible first|exact jZ.mono _ _ _ _ _ _ _|exact eY.refl _|refine eY.bind ?_ (fun _ =>?_))
theorem gY.calls (k:Nat) (bf:ByteArray) (bP:ByteArray) (cE:Bool) (bE:Int) (bK:Int) (bU:Int) (r:Bool) (w:World) (hG:bp w) (h:gY.f k bf bP cE bE bK bU=some r):
 Calls Tryz.prog 117 #[.agg #[.string bf,.string bP,.bool cE,.int .u8 bE,.int .i64 bK,.int .i64 bU]] w fun e w'=>e= .returned (.bool r)∧Below w.heap.size w w':=by
 have LM:=Tryz.underlying37
 have HB:=ah.mk (Below.refl w.heap.size w)
 have HG:=ah.mk hG
 clear hG
 have H:((jZ.f k bf bP cE bE bK bU).bind fun t208=>(some (!t208)))=some r:=h
 clear h
 obtain ⟨t208,A2,H⟩:=bd_ H
 obtain rfl:=Option.some.inj H
 go_enter Tryz.func117,Tryz.ntmps117
 go_wp2_with (first|((with_reducible refine bq (N:=1) rfl ?_);refine br ?hg (N:=1) ?hd (cs:=#[.string bf,.string bP,.bool cE,.int .u8 bE,.int .i64 bK,.int .i64 bU]) (t:=37) ?hr ?_;(case hd=>rfl);(case hg=>rfl);(case hr=>(go_simp;done));intro Bn hg w3 bJ hb;have rI:=ah.mk (bJ);have azc:=ah.mk ((bI:w.heap.size≤Bn));have azd:=ah.mk ((bI:w.heap.size≤Bn));replace HB:=ah.mk (ay aJ hb);clear hb bJ hg;have Tn:w3.cell? ⟨Bn,0,none⟩=some (.string bf):=(af rI.out 0).trans rfl;have Tp:w3.cell? ⟨Bn,1,none⟩=some (.string bP):=(af rI.out 1).trans rfl;have abH:w3.cell? ⟨Bn,2,none⟩=some (.bool cE):=(af rI.out 2).trans rfl;have abI:w3.cell? ⟨Bn,3,none⟩=some (.int .u8 bE):=(af rI.out 3).trans rfl;have abJ:w3.cell? ⟨Bn,4,none⟩=some (.int .i64 bK):=(af rI.out 4).trans rfl;have abK:w3.cell? ⟨Bn,5,none⟩=some (.int .i64 bU):=(af rI.out 5).trans rfl;have Tq:=aa rI.out 0;have Tt:=aa rI.out 1;have abL:=aa rI.out 2;have abM:=aa rI.out 3;have abN:=aa rI.out 4;have abO:=aa rI.out 5)|((with_reducible refine bH (f:=118) rfl ?_);refine dx (some 4) rfl rfl Tryz.func118 aq rfl #[.agg #[.string bf,.string bP,.bool cE,.int .u8 bE,.int .i64 bK,.int .i64 bU]] rfl dI ?_;(with_reducible refine (jZ.calls k bf bP cE bE bK bU t208 _ ?bk A2.out).mono ?_);(case bk=>exact bp.below HG.out aJ);rintro e w5 ⟨rfl,hb⟩;refine ⟨_,rfl,?_⟩;replace rI:=ah.mk (az (by exact rI.out) hb);replace HB:=ah.mk (ay aJ hb);(try clear hb)))
 go_ret
 exact ⟨by rfl,aJ⟩
end Go.Proofs.YtbjjaaodfbjkfaaGreatDoor.mN
