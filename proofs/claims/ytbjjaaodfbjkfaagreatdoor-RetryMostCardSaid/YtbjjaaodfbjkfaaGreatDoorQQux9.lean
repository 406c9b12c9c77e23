import Derived.Test.YtbjjaaodfbjkfaaGreatDoorQQux8
import Derived.Test.YtbjjaaodfbjkfaaGreatDoorWRepsOne
set_option maxHeartbeats 8000000
set_option maxRecDepth 100000
namespace Go.Proofs.YtbjjaaodfbjkfaaGreatDoor.qb
open Go.RowKit Go.Proofs.YtbjjaaodfbjkfaaGreatDoor.xI Go.Proofs.aj.bQ Go.Proofs.aj.dX Go.Proofs.aj.dJ
attribute [local go_sem] jT jU lF lG iX iY jV jW
set_option linter.unusedVariables false
set_option linter.unusedSimpArgs false
attribute [local go_sem high] ab7
def jc.f (k:Nat) (a0:ByteArray):Option (Bool):=(jO.f k a0).bind fun t207=>(some (!t207))
theorem jc.mono:∀ a0 k,gB (jc.f k a0) (jc.f (k + 1) a0):=by
 intro a0 k
 unfold jc.f
 repeat' (with_reducible first|exact jO.mono _ _|exact gB.refl _|refine gB.bind ?_ (fun _ =>?_))
theorem jc.calls (k:Nat) (a0:ByteArray) (r:Bool) (w:World) (hG:bp w) (h:jc.f k a0=some r):
 Calls Tryz.prog 144 #[.string a0] w fun e w'=>e= .returned (.bool r)∧Below w.heap.size w w':=by
 have HB:=ah.mk (Below.refl w.heap.size w)
 have HG:=ah.mk hG
 clear hG
 have H:((jO.f k a0).bind fun t207=>(some (!t207)))=some r:=h
 clear h
 obtain ⟨t207,A2,H⟩:=bd_ H
 obtain rfl:=Option.some.inj H
 go_enter Tryz.func144,Tryz.ntmps144
 go_wp2_with (((with_reducible refine bq (f:=145) rfl ?_);refine cK (some 4) rfl rfl Tryz.func145 aR rfl #[.string a0] rfl dc ?_;(with_reducible refine (jO.calls k a0 t207 _ ?aX A2.out).mono ?_);(case aX=>exact bp.below HG.out aD);rintro e w3 ⟨rfl,hb⟩;refine ⟨_,rfl,?_⟩;replace HB:=ah.mk (aA aD hb);(try clear hb)))
 go_ret
 exact ⟨by rfl,aD⟩
def aK.l0:Nat→List ByteArray→Int→Int→Option (Int)
 | 0,_,_,_ =>none
 |k + 1,x0,x7,x8=>if x8 < x7 then (if 0≤x8 then (if x8 < (x0.length:Int) then ((jc.f k (qU ByteArray.empty x0 x8)).bind fun t209=>(if t209=true then (some x8) else (aK.l0 k x0 x7 (wrap64 (x8 + 1))))) else (none)) else (none)) else (some (-1))
def aK.f (k:Nat) (l0:List ByteArray):Option (Int):=aK.l0 k l0 (l0.length:Int) 0
theorem aK.ij:∀ k,(∀ y0 y1 y2,gB (aK.l0 k y0 y1 y2) (aK.l0 (k + 1) y0 y1 y2))
 | 0=>fun _ _ _ r h=>by simp [aK.l0] at h
 |k + 1=>by
  have sG:=aK.ij k
  ·intro y0 y1 y2
   unfold aK.l0
   repeat' (with_reducible first|exact sG _ _ _|exact jc.mono _ _|exact gB.refl _|refine gB.ite ?_ ?_|refine gB.bind ?_ (fun _ =>?_))
theorem aK.mono:∀ a0 k,gB (aK.f k a0) (aK.f (k + 1) a0):=by
 intro a0 k
 have sG:=aK.ij k
 unfold aK.f
 repeat' (with_reducible exact sG _ _ _)
theorem aK.calls (k:Nat) (A0:Option Addr) (c0:Nat) (l0:List ByteArray) (r:Int) (w:World) (lN:Kd.C Kd.string w A0 l0.length l0) (hc0:l0.length≤c0) (hG:bp w) (h:aK.f k l0=some r):
 Calls Tryz.prog 184 #[.slice A0 l0.length c0,.func (.func 144) #[] #[]] w fun e w'=>e= .returned (.int .i64 r)∧Below w.heap.size w w':=by
 have nr:=ah.mk lN
 have sU:=ah.mk hc0
 clear lN hc0
 have HB:=ah.mk (Below.refl w.heap.size w)
 have HG:=ah.mk hG
 clear hG
 have H:(aK.l0 k l0 (l0.length:Int) 0)=some r:=h
 clear h
 have H':=ah.mk H
 clear H
 go_enter Tryz.func184,Tryz.ntmps184
 go_wp2
 go_loopg [8] k (fun kq v8 w'=>∃ (eP:Int),v8= .int .i64 eP∧ah (aK.l0 kq l0 (l0.length:Int) eP=some r)∧ah (kq≤k)∧ah (Below w.heap.size w w'))
 case atStart=>exact ⟨(0),(by rfl),H',⟨Nat.le_refl _⟩,⟨aD⟩⟩
 case round=>
  clear H'
  obtain ⟨eP,rfl,HA,sw,HB⟩:=hrel
  cases gk with
  |zero=>exact absurd HA.out (by simp [aK.l0])
  |succ k1=>
   have H:=HA.out
   clear HA
   simp only [aK.l0] at H
   by_cases c3:eP < (l0.length:Int)
   ·rw [if_pos c3] at H
    have pF:=decide_eq_true c3
    clear c3
    obtain ⟨c4,H⟩:=ld H
    have oU:=decide_eq_true c4
    clear c4
    obtain ⟨c5,H⟩:=ld H
    have uA:=decide_eq_true c5
    clear c5
    obtain ⟨t209,A6,H⟩:=bd_ H
    by_cases c7:t209=true
    ·subst c7
     rw [if_pos rfl] at H
     obtain rfl:=Option.some.inj H
     have J3: 0≤(eP:Int):=of_decide_eq_true cP
     have J4:eP < (l0.length:Int):=of_decide_eq_true cP
     obtain ⟨ajn,aed,ud⟩:=Kd.mM nr.out eP J3 J4
     cases aed
     replace ud:=(HB.out.cell (World.block_lt_of_cell? w _ ud)).trans ud
     replace J3:=eq_true J3
     replace J4:=eq_true J4
     go_wp2_with ((go_at_call 144;(with_reducible refine (jc.calls k1 (qU ByteArray.empty l0 eP) true _ ?aX A6.out).mono ?_);(case aX=>exact bp.below HG.out aD);rintro e w8 ⟨rfl,hb⟩;replace HB:=ah.mk (aA aD hb);(try clear hb)))
     go_ret
     exact ⟨by rfl,aD⟩
    ·replace c7:=Bool.eq_false_iff.mpr c7
     subst c7
     rw [if_neg (show ¬ (false=true) by decide)] at H
     have H':=ah.mk H
     clear H
     have J3: 0≤(eP:Int):=of_decide_eq_true cP
     have J4:eP < (l0.length:Int):=of_decide_eq_true cP
     obtain ⟨ajn,aed,ud⟩:=Kd.mM nr.out eP J3 J4
     cases aed
     replace ud:=(HB.out.cell (World.block_lt_of_cell? w _ ud)).trans ud
     replace J3:=eq_true J3
     replace J4:=eq_true J4
     go_wp2_with ((go_at_call 144;(with_reducible refine (jc.calls k1 (qU ByteArray.empty l0 eP) false _ ?aX A6.out).mono ?_);(case aX=>exact bp.below HG.out aD);rintro e w9 ⟨rfl,hb⟩;replace HB:=ah.mk (aA aD hb);(try clear hb)))
     go_roundg k1
     case measure=>have:=sw.out;omega
     case rel=>exact ⟨(wrap64 (eP + 1)),(by rfl),H',⟨lA⟩,⟨aD⟩⟩
   ·rw [if_neg c3] at H
    have pF:=decide_eq_false c3
    clear c3
    obtain rfl:=Option.some.inj H
    go_wp2
    go_ret
    exact ⟨by rfl,aD⟩
def bP.f (k:Nat) (l0:List ByteArray):Option (Bool):=(aK.f k l0).bind fun t210=>(some (decide (t210≥0)))
theorem bP.mono:∀ a0 k,gB (bP.f k a0) (bP.f (k + 1) a0):=by
 intro a0 k
 unfold bP.f
 repeat' (with_reducible first|exact aK.mono _ _|exact gB.refl _|refine gB.bind ?_ (fun _ =>?_))
theorem bP.calls (k:Nat) (A0:Option Addr) (c0:Nat) (l0:List ByteArray) (r:Bool) (w:World) (lN:Kd.C Kd.string w A0 l0.length l0) (hc0:l0.length≤c0) (hG:bp w) (h:bP.f k l0=some r):
 Calls Tryz.prog 140 #[.slice A0 l0.length c0,.func (.func 144) #[] #[]] w fun e w'=>e= .returned (.bool r)∧Below w.heap.size w w':=by
 have nr:=ah.mk lN
 have sU:=ah.mk hc0
 clear lN hc0
 have HB:=ah.mk (Below.refl w.heap.size w)
 have HG:=ah.mk hG
 clear hG
 have H:((aK.f k l0).bind fun t210=>(some (decide (t210≥0))))=some r:=h
 clear h
 obtain ⟨t210,A3,H⟩:=bd_ H
 obtain rfl:=Option.some.inj H
 go_enter Tryz.func140,Tryz.ntmps140
 go_wp2_with (((with_reducible refine bq (f:=184) rfl ?_);refine cK (some 7) rfl rfl Tryz.func184 aR rfl #[.slice A0 l0.length c0,.func (.func 144) #[] #[]] rfl dc ?_;(with_reducible refine (aK.calls k _ _ l0 t210 _ ?aX ?bF ?dU A3.out).mono ?_);(case aX=>repeat (exact nr.out));(case bF=>exact sU.out);(case dU=>exact bp.below HG.out aD);rintro e w4 ⟨rfl,hb⟩;refine ⟨_,rfl,?_⟩;replace HB:=ah.mk (aA aD hb);(try clear hb)))
 go_ret
 exact ⟨by rfl,aD⟩
def cU.f (k:Nat) (bB:Bool) (bn:List ByteArray) (cD:ByteArray) (bM:ByteArray) (bS:Bool):Option (Bool):=if bB=true then (if (bn.length:Int)=0 then (some (cD.toList == ([]:List UInt8) && (bM.toList == ([]:List UInt8) && (!bS)))) else (some false)) else (if (cD.toList == ([112,111,115,116,109,97,115,116,101,114]:List UInt8) && (bM.toList == ([]:List UInt8) && (!bS)))=true then (some ((bn.length:Int) == 0)) else ((cL.f k cD bM bS).bind fun t212=>(if t212=true then (if (bn.length:Int)≤20 then ((bP.f k bn).bind fun t213=>(some (!t213))) else (some false)) else (some false))))
theorem cU.mono:∀ a0 a1 a2 a3 a4 k,gB (cU.f k a0 a1 a2 a3 a4) (cU.f (k + 1) a0 a1 a2 a3 a4):=by
 intro a0 a1 a2 a3 a4 k
 unfold cU.f
 repeat' (with_reducible first|exact cL.mono _ _ _ _|exact bP.mono _ _|exact gB.refl _|refine gB.ite ?_ ?_|refine gB.bind ?_ (fun _ =>?_))
theorem cU.calls (k:Nat) (bB:Bool) (lZ:Option Addr) (kE:Nat) (bn:List ByteArray) (cD:ByteArray) (bM:ByteArray) (bS:Bool) (r:Bool) (w:World) (uV:Kd.C Kd.string w lZ bn.length bn) (uW:bn.length≤kE) (hG:bp w) (h:cU.f k bB bn cD bM bS=some r):
 Calls Tryz.prog 95 #[.agg #[.bool bB,.slice lZ bn.length kE,.string cD,.string bM,.bool bS]] w fun e w'=>e= .returned (.bool r)∧Below w.heap.size w w':=by
 have adb:=Tryz.underlying31
 have Q3:=Tryz.underlying29
 have CE:=ah.mk uV
 have RP:=ah.mk uW
 clear uV uW
 have HB:=ah.mk (Below.refl w.heap.size w)
 have HG:=ah.mk hG
 clear hG
 have H:(if bB=true then (if (bn.length:Int)=0 then (some (cD.toList == ([]:List UInt8) && (bM.toList == ([]:List UInt8) && (!bS)))) else (some false)) else (if (cD.toList == ([112,111,115,116,109,97,115,116,101,114]:List UInt8) && (bM.toList == ([]:List UInt8) && (!bS)))=true then (some ((bn.length:Int) == 0)) else ((cL.f k cD bM bS).bind fun t212=>(if t212=true then (if (bn.length:Int)≤20 then ((bP.f k bn).bind fun t213=>(some (!t213))) else (some false)) else (some false)))))=some r:=h
 clear h
 by_cases c2:bB=true
 ·subst c2
  rw [if_pos rfl] at H
  by_cases c3:(bn.length:Int)=0
  ·rw [if_pos c3] at H
   have pF:=beq_iff_eq.mpr c3
   have De:=bne_eq_false_iff_eq.mpr c3
   clear c3
   obtain rfl:=Option.some.inj H
   go_enter Tryz.func95,Tryz.ntmps95
   go_wp2_with (((with_reducible refine bI (N:=1) rfl ?_);(try (refine bT (by rfl) ?_;dsimp only));refine bR ?hg (N:=1) ?hd (cs:=#[.bool true,.slice lZ bn.length kE,.string cD,.string bM,.bool bS]) (t:=31) ?hr ?_;(case hd=>rfl);(case hg=>rfl);(case hr=>(go_simp;done));intro fq hg w4 b9 hb;have cT:=ah.mk (b9);have IJ:=ah.mk ((bZ:w.heap.size≤fq));have IK:=ah.mk ((bZ:w.heap.size≤fq));replace HB:=ah.mk (aA aD hb);clear hb b9 hg;have Sg:w4.cell? ⟨fq,0,none⟩=some (.bool true):=(af cT.out 0).trans rfl;have Sh:w4.cell? ⟨fq,1,none⟩=some (.slice lZ bn.length kE):=(af cT.out 1).trans rfl;have ad6:w4.cell? ⟨fq,2,none⟩=some (.string cD):=(af cT.out 2).trans rfl;have aCt:w4.cell? ⟨fq,3,none⟩=some (.string bM):=(af cT.out 3).trans rfl;have aCu:w4.cell? ⟨fq,4,none⟩=some (.bool bS):=(af cT.out 4).trans rfl;have Si:=aa cT.out 0;have Sj:=aa cT.out 1;have ad7:=aa cT.out 2;have aCv:=aa cT.out 3;have aCw:=aa cT.out 4))
   go_ret
   exact ⟨by rfl,aD⟩
  ·rw [if_neg c3] at H
   have pF:=beq_eq_false_iff_ne.mpr c3
   have De:=bne_iff_ne.mpr c3
   have aJJ: ¬ (bn= []):=fun h_ =>c3 (by rw [h_];rfl)
   obtain rfl:=Option.some.inj H
   go_enter Tryz.func95,Tryz.ntmps95
   go_wp2_with (((with_reducible refine bI (N:=1) rfl ?_);(try (refine bT (by rfl) ?_;dsimp only));refine bR ?hg (N:=1) ?hd (cs:=#[.bool true,.slice lZ bn.length kE,.string cD,.string bM,.bool bS]) (t:=31) ?hr ?_;(case hd=>rfl);(case hg=>rfl);(case hr=>(go_simp;done));intro fq hg w6 b9 hb;have cT:=ah.mk (b9);have IJ:=ah.mk ((bZ:w.heap.size≤fq));have IK:=ah.mk ((bZ:w.heap.size≤fq));replace HB:=ah.mk (aA aD hb);clear hb b9 hg;have FW:w6.cell? ⟨fq,0,none⟩=some (.bool true):=(af cT.out 0).trans rfl;have FX:w6.cell? ⟨fq,1,none⟩=some (.slice lZ bn.length kE):=(af cT.out 1).trans rfl;have Sz:w6.cell? ⟨fq,2,none⟩=some (.string cD):=(af cT.out 2).trans rfl;have SA:w6.cell? ⟨fq,3,none⟩=some (.string bM):=(af cT.out 3).trans rfl;have SB:w6.cell? ⟨fq,4,none⟩=some (.bool bS):=(af cT.out 4).trans rfl;have FY:=aa cT.out 0;have FZ:=aa cT.out 1;have SC:=aa cT.out 2;have SD:=aa cT.out 3;have SE:=aa cT.out 4))
   go_ret
   exact ⟨by rfl,aD⟩
 ·replace c2:=Bool.eq_false_iff.mpr c2
  subst c2
  rw [if_neg (show ¬ (false=true) by decide)] at H
  by_cases c8:(cD.toList == ([112,111,115,116,109,97,115,116,101,114]:List UInt8) && (bM.toList == ([]:List UInt8) && (!bS)))=true
  ·rw [if_pos c8] at H
   have Cl:(cD.toList == ([112,111,115,116,109,97,115,116,101,114]:List UInt8) && (bM.toList == ([]:List UInt8) && (!bS)))=true:=c8
   have c8e:(cD.toList == ([112,111,115,116,109,97,115,116,101,114]:List UInt8))=true∧bM.toList.isEmpty=true∧(!bS)=true:=by {have c_ :=c8;simp only [Bool.and_eq_true] at c_;obtain ⟨h1_,ZA,h3_⟩:=c_;exact ⟨h1_,by rw [beq_iff_eq] at ZA;rw [ZA];rfl,h3_⟩}
   obtain ⟨c8f,c8g,c8h⟩:=c8e
   (try (have Pd:decide (cD.toList=([112,111,115,116,109,97,115,116,101,114]:List UInt8) && (bM.toList == ([]:List UInt8) && (!bS)))=true:=by simpa using c8))
   (try (have QX:(cD.toList == ([112,111,115,116,109,97,115,116,101,114]:List UInt8) && (bM.toList == ([]:List UInt8) && (!bS)))=true:=by simpa using c8))
   clear c8
   obtain rfl:=Option.some.inj H
   go_enter Tryz.func95,Tryz.ntmps95
   go_wp2_with (((with_reducible refine bI (N:=1) rfl ?_);(try (refine bT (by rfl) ?_;dsimp only));refine bR ?hg (N:=1) ?hd (cs:=#[.bool false,.slice lZ bn.length kE,.string cD,.string bM,.bool bS]) (t:=31) ?hr ?_;(case hd=>rfl);(case hg=>rfl);(case hr=>(go_simp;done));intro fq hg w9 b9 hb;have cT:=ah.mk (b9);have IJ:=ah.mk ((bZ:w.heap.size≤fq));have IK:=ah.mk ((bZ:w.heap.size≤fq));replace HB:=ah.mk (aA aD hb);clear hb b9 hg;have NI:w9.cell? ⟨fq,0,none⟩=some (.bool false):=(af cT.out 0).trans rfl;have NJ:w9.cell? ⟨fq,1,none⟩=some (.slice lZ bn.length kE):=(af cT.out 1).trans rfl;have Zu:w9.cell? ⟨fq,2,none⟩=some (.string cD):=(af cT.out 2).trans rfl;have Zv:w9.cell? ⟨fq,3,none⟩=some (.string bM):=(af cT.out 3).trans rfl;have Zw:w9.cell? ⟨fq,4,none⟩=some (.bool bS):=(af cT.out 4).trans rfl;have NK:=aa cT.out 0;have NL:=aa cT.out 1;have Zx:=aa cT.out 2;have Zy:=aa cT.out 3;have Zz:=aa cT.out 4))
   go_ret
   exact ⟨by rfl,aD⟩
  ·rw [if_neg c8] at H
   have c8e:((cD.toList == ([112,111,115,116,109,97,115,116,101,114]:List UInt8))=true∧bM.toList.isEmpty=true∧(!bS)=true)=False:=eq_false (fun ⟨h1_,ZA,h3_⟩=>c8 (by rw [h1_,show (bM.toList == ([]:List UInt8))=true from by rw [beq_iff_eq];exact List.isEmpty_iff.mp ZA,h3_];rfl))
   have Cl:(cD.toList == ([112,111,115,116,109,97,115,116,101,114]:List UInt8) && (bM.toList == ([]:List UInt8) && (!bS)))=false:=by simpa using c8
   (try (have Pd:decide (cD.toList=([112,111,115,116,109,97,115,116,101,114]:List UInt8) && (bM.toList == ([]:List UInt8) && (!bS)))=false:=by simpa using c8))
   (try (have QX:(cD.toList == ([112,111,115,116,109,97,115,116,101,114]:List UInt8) && (bM.toList == ([]:List UInt8) && (!bS)))=false:=by simpa using c8))
   (try (have ac9: ¬ (cD.toList=([112,111,115,116,109,97,115,116,101,114]:List UInt8) && (bM.toList == ([]:List UInt8) && (!bS))):=by simpa using c8))
   clear c8
   obtain ⟨t212,A11,H⟩:=bd_ H
   by_cases c12:t212=true
   ·subst c12
    rw [if_pos rfl] at H
    by_cases c13:(bn.length:Int)≤20
    ·rw [if_pos c13] at H
     have CD:=decide_eq_true c13
     have Sw:decide (bn.length≤20)=true:=decide_eq_true ay
     clear c13
     obtain ⟨t213,A14,H⟩:=bd_ H
     obtain rfl:=Option.some.inj H
     go_enter Tryz.func95,Tryz.ntmps95
     go_wp2_with (first|((with_reducible refine bI (N:=1) rfl ?_);(try (refine bT (by rfl) ?_;dsimp only));refine bR ?hg (N:=1) ?hd (cs:=#[.bool false,.slice lZ bn.length kE,.string cD,.string bM,.bool bS]) (t:=31) ?hr ?_;(case hd=>rfl);(case hg=>rfl);(case hr=>(go_simp;done));intro fq hg uC b9 hb;have cT:=ah.mk (b9);have IJ:=ah.mk ((bZ:w.heap.size≤fq));have IK:=ah.mk ((bZ:w.heap.size≤fq));replace HB:=ah.mk (aA aD hb);clear hb b9 hg;have FJ:uC.cell? ⟨fq,0,none⟩=some (.bool false):=(af cT.out 0).trans rfl;have FL:uC.cell? ⟨fq,1,none⟩=some (.slice lZ bn.length kE):=(af cT.out 1).trans rfl;have FM:uC.cell? ⟨fq,2,none⟩=some (.string cD):=(af cT.out 2).trans rfl;have FN:uC.cell? ⟨fq,3,none⟩=some (.string bM):=(af cT.out 3).trans rfl;have FO:uC.cell? ⟨fq,4,none⟩=some (.bool bS):=(af cT.out 4).trans rfl;have FP:=aa cT.out 0;have FQ:=aa cT.out 1;have FT:=aa cT.out 2;have FU:=aa cT.out 3;have FV:=aa cT.out 4)|((with_reducible refine bq (f:=143) rfl ?_);refine cK (some 25) rfl rfl Tryz.func143 aR rfl #[.agg #[.string cD,.string bM,.bool bS]] rfl dc ?_;(with_reducible refine (cL.calls k cD bM bS true _ ?aX A11.out).mono ?_);(case aX=>exact bp.below HG.out aD);rintro e wj ⟨rfl,hb⟩;refine ⟨_,rfl,?_⟩;replace cT:=ah.mk (aC (by exact cT.out) hb);replace HB:=ah.mk (aA aD hb);(try clear hb);have ya:wj.cell? ⟨fq,0,none⟩=some (.bool false):=(af cT.out 0).trans rfl;have yc:wj.cell? ⟨fq,1,none⟩=some (.slice lZ bn.length kE):=(af cT.out 1).trans rfl;have yf:wj.cell? ⟨fq,2,none⟩=some (.string cD):=(af cT.out 2).trans rfl;have yg:wj.cell? ⟨fq,3,none⟩=some (.string bM):=(af cT.out 3).trans rfl;have yh:wj.cell? ⟨fq,4,none⟩=some (.bool bS):=(af cT.out 4).trans rfl;have yj:=aa cT.out 0;have yl:=aa cT.out 1;have ym:=aa cT.out 2;have yq:=aa cT.out 3;have yt:=aa cT.out 4)|(go_at_call 140;(with_reducible refine (bP.calls k _ _ bn t213 _ ?aX ?bF ?dU A14.out).mono ?_);(case aX=>repeat (exact (Kd.bG CE.out HB.out)));(case bF=>exact RP.out);(case dU=>exact bp.below HG.out aD);rintro e w19 ⟨rfl,hb⟩;replace cT:=ah.mk (aC (by exact cT.out) hb);replace HB:=ah.mk (aA aD hb);(try clear hb)))
     try any_goals (exact (c8e.mp o8).elim)
     go_ret
     exact ⟨by rfl,aD⟩
    ·rw [if_neg c13] at H
     have CD:=decide_eq_false c13
     have Sw:decide (bn.length≤20)=false:=decide_eq_false ay
     clear c13
     obtain rfl:=Option.some.inj H
     go_enter Tryz.func95,Tryz.ntmps95
     go_wp2_with (first|((with_reducible refine bI (N:=1) rfl ?_);(try (refine bT (by rfl) ?_;dsimp only));refine bR ?hg (N:=1) ?hd (cs:=#[.bool false,.slice lZ bn.length kE,.string cD,.string bM,.bool bS]) (t:=31) ?hr ?_;(case hd=>rfl);(case hg=>rfl);(case hr=>(go_simp;done));intro fq hg w20 b9 hb;have cT:=ah.mk (b9);have IJ:=ah.mk ((bZ:w.heap.size≤fq));have IK:=ah.mk ((bZ:w.heap.size≤fq));replace HB:=ah.mk (aA aD hb);clear hb b9 hg;have VH:w20.cell? ⟨fq,0,none⟩=some (.bool false):=(af cT.out 0).trans rfl;have VI:w20.cell? ⟨fq,1,none⟩=some (.slice lZ bn.length kE):=(af cT.out 1).trans rfl;have VJ:w20.cell? ⟨fq,2,none⟩=some (.string cD):=(af cT.out 2).trans rfl;have VK:w20.cell? ⟨fq,3,none⟩=some (.string bM):=(af cT.out 3).trans rfl;have VL:w20.cell? ⟨fq,4,none⟩=some (.bool bS):=(af cT.out 4).trans rfl;have VM:=aa cT.out 0;have VN:=aa cT.out 1;have VO:=aa cT.out 2;have VP:=aa cT.out 3;have VQ:=aa cT.out 4)|((with_reducible refine bq (f:=143) rfl ?_);refine cK (some 25) rfl rfl Tryz.func143 aR rfl #[.agg #[.string cD,.string bM,.bool bS]] rfl dc ?_;(with_reducible refine (cL.calls k cD bM bS true _ ?aX A11.out).mono ?_);(case aX=>exact bp.below HG.out aD);rintro e zR ⟨rfl,hb⟩;refine ⟨_,rfl,?_⟩;replace cT:=ah.mk (aC (by exact cT.out) hb);replace HB:=ah.mk (aA aD hb);(try clear hb);have Md:zR.cell? ⟨fq,0,none⟩=some (.bool false):=(af cT.out 0).trans rfl;have Me:zR.cell? ⟨fq,1,none⟩=some (.slice lZ bn.length kE):=(af cT.out 1).trans rfl;have Mf:zR.cell? ⟨fq,2,none⟩=some (.string cD):=(af cT.out 2).trans rfl;have Mg:zR.cell? ⟨fq,3,none⟩=some (.string bM):=(af cT.out 3).trans rfl;have Mh:zR.cell? ⟨fq,4,none⟩=some (.bool bS):=(af cT.out 4).trans rfl;have Mi:=aa cT.out 0;have Mj:=aa cT.out 1;have Mk:=aa cT.out 2;have Mm:=aa cT.out 3;have Mn:=aa cT.out 4))
     try any_goals (exact (c8e.mp o8).elim)
     go_ret
     exact ⟨by rfl,aD⟩
   ·replace c12:=Bool.eq_false_iff.mpr c12
    subst c12
    rw [if_neg (show ¬ (false=true) by decide)] at H
    obtain rfl:=Option.some.inj H
    go_enter Tryz.func95,Tryz.ntmps95
    go_wp2_with (first|((with_reducible refine bI (N:=1) rfl ?_);(try (refine bT (by rfl) ?_;dsimp only));refine bR ?hg (N:=1) ?hd (cs:=#[.bool false,.slice lZ bn.length kE,.string cD,.string bM,.bool bS]) (t:=31) ?hr ?_;(case hd=>rfl);(case hg=>rfl);(case hr=>(go_simp;done));intro fq hg pM b9 hb;have cT:=ah.mk (b9);have IJ:=ah.mk ((bZ:w.heap.size≤fq));have IK:=ah.mk ((bZ:w.heap.size≤fq));replace HB:=ah.mk (aA aD hb);clear hb b9 hg;have Ak:pM.cell? ⟨fq,0,none⟩=some (.bool false):=(af cT.out 0).trans rfl;have Al:pM.cell? ⟨fq,1,none⟩=some (.slice lZ bn.length kE):=(af cT.out 1).trans rfl;have Am:pM.cell? ⟨fq,2,none⟩=some (.string cD):=(af cT.out 2).trans rfl;have Dz:pM.cell? ⟨fq,3,none⟩=some (.string bM):=(af cT.out 3).trans rfl;have DA:pM.cell? ⟨fq,4,none⟩=some (.bool bS):=(af cT.out 4).trans rfl;have Ao:=aa cT.out 0;have Ap:=aa cT.out 1;have Aq:=aa cT.out 2;have DB:=aa cT.out 3;have DC:=aa cT.out 4)|((with_reducible refine bq (f:=143) rfl ?_);refine cK (some 25) rfl rfl Tryz.func143 aR rfl #[.agg #[.string cD,.string bM,.bool bS]] rfl dc ?_;(with_reducible refine (cL.calls k cD bM bS false _ ?aX A11.out).mono ?_);(case aX=>exact bp.below HG.out aD);rintro e I8 ⟨rfl,hb⟩;refine ⟨_,rfl,?_⟩;replace cT:=ah.mk (aC (by exact cT.out) hb);replace HB:=ah.mk (aA aD hb);(try clear hb)))
    try any_goals (exact (c8e.mp o8).elim)
    go_ret
    exact ⟨by rfl,aD⟩
def lH.f (a0:Int):Option (Bool):=if a0 < 0 then (some true) else (some (decide (a0 > 1099511627776)))
theorem lH.calls (a0:Int) (r:Bool) (w:World) (h:lH.f a0=some r):
 Calls Tryz.prog 163 #[.int .i64 a0] w fun e w'=>e= .returned (.bool r)∧gH w w':=by
 have H:(if a0 < 0 then (some true) else (some (decide (a0 > 1099511627776))))=some r:=h
 clear h
 by_cases c2:a0 < 0
 ·rw [if_pos c2] at H
  have yu:=decide_eq_true c2
  clear c2
  obtain rfl:=Option.some.inj H
  go_enter Tryz.func163,Tryz.ntmps163
  go_wp2
  go_ret
  exact ⟨by rfl,mE⟩
 ·rw [if_neg c2] at H
  have yu:=decide_eq_false c2
  clear c2
  obtain rfl:=Option.some.inj H
  go_enter Tryz.func163,Tryz.ntmps163
  go_wp2
  go_ret
  exact ⟨by rfl,mE⟩
def bD.l0:Nat→List Int→Int→Int→Option (Int)
 | 0,_,_,_ =>none
 |k + 1,x0,x7,x8=>if x8 < x7 then (if 0≤x8 then (if x8 < (x0.length:Int) then ((lH.f (rd x0 x8)).bind fun t215=>(if t215=true then (some x8) else (bD.l0 k x0 x7 (wrap64 (x8 + 1))))) else (none)) else (none)) else (some (-1))
def bD.f (k:Nat) (l0:List Int):Option (Int):=bD.l0 k l0 (l0.length:Int) 0
theorem bD.calls (k:Nat) (A0:Option Addr) (c0:Nat) (l0:List Int) (r:Int) (w:World) (lN:Kd.C (Kd.int .i64) w A0 l0.length l0) (hc0:l0.length≤c0) (h:bD.f k l0=some r):
 Calls Tryz.prog 129 #[.slice A0 l0.length c0,.func (.func 163) #[] #[]] w fun e w'=>e= .returned (.int .i64 r)∧gH w w':=by
 have nr:=ah.mk lN
 have sU:=ah.mk hc0
 clear lN hc0
 have H:(bD.l0 k l0 (l0.length:Int) 0)=some r:=h
 clear h
 have H':=ah.mk H
 clear H
 go_enter Tryz.func129,Tryz.ntmps129
 go_wp2
 go_loopg [8] k (fun kq v8 w'=>∃ (eP:Int),v8= .int .i64 eP∧ah (bD.l0 kq l0 (l0.length:Int) eP=some r)∧ah (kq≤k)∧gH w w')
 case atStart=>exact ⟨(0),(by rfl),H',⟨Nat.le_refl _⟩,mE⟩
 case round=>
  clear H'
  obtain ⟨eP,rfl,HA,sw,⟨m1,rfl⟩⟩:=hrel
  cases gk with
  |zero=>exact absurd HA.out (by simp [bD.l0])
  |succ k1=>
   have H:=HA.out
   clear HA
   simp only [bD.l0] at H
   by_cases c3:eP < (l0.length:Int)
   ·rw [if_pos c3] at H
    have pF:=decide_eq_true c3
    clear c3
    obtain ⟨c4,H⟩:=ld H
    have oU:=decide_eq_true c4
    clear c4
    obtain ⟨c5,H⟩:=ld H
    have uA:=decide_eq_true c5
    clear c5
    obtain ⟨t215,A6,H⟩:=bd_ H
    by_cases c7:t215=true
    ·subst c7
     rw [if_pos rfl] at H
     obtain rfl:=Option.some.inj H
     have J5: 0≤(eP:Int):=of_decide_eq_true cP
     have J6:eP < (l0.length:Int):=of_decide_eq_true cP
     obtain ⟨ajp,aee,ZR⟩:=Kd.p4 nr.out eP J5 J6
     cases aee
     replace J5:=eq_true J5
     replace J6:=eq_true J6
     go_wp2_with ((go_at_call 163;(with_reducible refine (lH.calls (rd l0 eP) true _ A6.out).mono ?_);rintro e w' ⟨rfl,⟨nd,rfl⟩⟩))
     go_ret
     exact ⟨by rfl,jy⟩
    ·replace c7:=Bool.eq_false_iff.mpr c7
     subst c7
     rw [if_neg (show ¬ (false=true) by decide)] at H
     have H':=ah.mk H
     clear H
     have J5: 0≤(eP:Int):=of_decide_eq_true cP
     have J6:eP < (l0.length:Int):=of_decide_eq_true cP
     obtain ⟨ajp,aee,ZR⟩:=Kd.p4 nr.out eP J5 J6
     cases aee
     replace J5:=eq_true J5
     replace J6:=eq_true J6
     go_wp2_with ((go_at_call 163;(with_reducible refine (lH.calls (rd l0 eP) false _ A6.out).mono ?_);rintro e w' ⟨rfl,⟨nd,rfl⟩⟩))
     go_roundg k1
     case measure=>have:=sw.out;omega
     case rel=>exact ⟨(wrap64 (eP + 1)),(by rfl),H',⟨lA⟩,jy⟩
   ·rw [if_neg c3] at H
    have pF:=decide_eq_false c3
    clear c3
    obtain rfl:=Option.some.inj H
    go_wp2
    go_ret
    exact ⟨by rfl,jy⟩
def cS.f (k:Nat) (l0:List Int):Option (Bool):=(bD.f k l0).bind fun t216=>(some (decide (t216≥0)))
theorem cS.calls (k:Nat) (A0:Option Addr) (c0:Nat) (l0:List Int) (r:Bool) (w:World) (lN:Kd.C (Kd.int .i64) w A0 l0.length l0) (hc0:l0.length≤c0) (h:cS.f k l0=some r):
 Calls Tryz.prog 85 #[.slice A0 l0.length c0,.func (.func 163) #[] #[]] w fun e w'=>e= .returned (.bool r)∧gH w w':=by
 have nr:=ah.mk lN
 have sU:=ah.mk hc0
 clear lN hc0
 have H:((bD.f k l0).bind fun t216=>(some (decide (t216≥0))))=some r:=h
 clear h
 obtain ⟨t216,A3,H⟩:=bd_ H
 obtain rfl:=Option.some.inj H
 go_enter Tryz.func85,Tryz.ntmps85
 go_wp2_with (((with_reducible refine bq (f:=129) rfl ?_);refine cK (some 7) rfl rfl Tryz.func129 aR rfl #[.slice A0 l0.length c0,.func (.func 163) #[] #[]] rfl dc ?_;(with_reducible refine (bD.calls k _ _ l0 t216 _ ?aX ?bF A3.out).mono ?_);(case aX=>repeat (exact nr.out));(case bF=>exact sU.out);rintro e w' ⟨rfl,⟨nd,rfl⟩⟩;refine ⟨_,rfl,?_⟩))
 go_ret
 exact ⟨by rfl,jy⟩
def cV.f (k:Nat) (l0:List Int):Option (Bool):=(cS.f k l0).bind fun t217=>(some (!t217))
theorem cV.calls (k:Nat) (A0:Option Addr) (c0:Nat) (l0:List Int) (r:Bool) (w:World) (lN:Kd.C (Kd.int .i64) w A0 l0.length l0) (hc0:l0.length≤c0) (h:cV.f k l0=some r):
 Calls Tryz.prog 102 #[.slice A0 l0.length c0] w fun e w'=>e= .returned (.bool r)∧gH w w':=by
 have nr:=ah.mk lN
 have sU:=ah.mk hc0
 clear lN hc0
 have H:((cS.f k l0).bind fun t217=>(some (!t217)))=some r:=h
 clear h
 obtain ⟨t217,A2,H⟩:=bd_ H
 obtain rfl:=Option.some.inj H
 go_enter Tryz.func102,Tryz.ntmps102
 go_wp2_with (((with_reducible refine bq (f:=85) rfl ?_);refine cK (some 4) rfl rfl Tryz.func85 aR rfl #[.slice A0 l0.length c0,.func (.func 163) #[] #[]] rfl dc ?_;(with_reducible refine (cS.calls k _ _ l0 t217 _ ?aX ?bF A2.out).mono ?_);(case aX=>repeat (exact nr.out));(case bF=>exact sU.out);rintro e w' ⟨rfl,⟨nd,rfl⟩⟩;refine ⟨_,rfl,?_⟩))
 go_ret
 exact ⟨by rfl,jy⟩
def pJ.f (k:Nat) (bB:ByteArray) (b7:ByteArray) (cD:Bool) (bM:Int) (bS:Int) (cr:Int):Option (Bool):=(cU.f k false ([]:List ByteArray) bB b7 cD).bind fun t219=>(if t219=true then (if bM≤2 then ((cV.f k (([bS,cr]:List Int))).bind fun t223=>(some t223)) else (some false)) else (some false))
theorem pJ.calls (k:Nat) (bB:ByteArray) (b7:ByteArray) (cD:Bool) (bM:Int) (bS:Int) (cr:Int) (r:Bool) (w:World) (hG:bp w) (h:pJ.f k bB b7 cD bM bS cr=some r):
 Calls Tryz.prog 118 #[.agg #[.string bB,.string b7,.bool cD,.int .u8 bM,.int .i64 bS,.int .i64 cr]] w fun e w'=>e= .returned (.bool r)∧Below w.heap.size w w':=by
 have ade:=Tryz.underlying37
 have Q3:=Tryz.underlying29
 have adb:=Tryz.underlying31
 have HB:=ah.mk (Below.refl w.heap.size w)
 have HG:=ah.mk hG
 clear hG
 have H:((cU.f k false ([]:List ByteArray) bB b7 cD).bind fun t219=>(if t219=true then (if bM≤2 then ((cV.f k (([bS,cr]:List Int))).bind fun t223=>(some t223)) else (some false)) else (some false)))=some r:=h
 clear h
 obtain ⟨t219,A2,H⟩:=bd_ H
 by_cases c3:t219=true
 ·subst c3
  rw [if_pos rfl] at H
  by_cases c4:bM≤2
  ·rw [if_pos c4] at H
   have oU:=decide_eq_true c4
   clear c4
   obtain ⟨ajq,SF⟩:∃ y_:List Int,y_=(([bS,cr]:List Int)):=⟨_,rfl⟩
   replace H:((cV.f k ajq).bind fun t223=>(some t223))=some r:=by (rw [SF];with_reducible exact H)
   have ajr:=ah.mk SF
   clear SF
   obtain ⟨t223,A5,H⟩:=bd_ H
   obtain rfl:=Option.some.inj H
   go_enter Tryz.func118,Tryz.ntmps118
   go_wp2_with (first|((with_reducible refine bI (N:=1) rfl ?_);(try (refine bT (by rfl) ?_;dsimp only));refine bR ?hg (N:=1) ?hd (cs:=#[.string bB,.string b7,.bool cD,.int .u8 bM,.int .i64 bS,.int .i64 cr]) (t:=37) ?hr ?_;(case hd=>rfl);(case hg=>rfl);(case hr=>(go_simp;done));intro iP hg w6 b9 hb;have eu:=ah.mk (b9);have ach:=ah.mk ((bZ:w.heap.size≤iP));have aci:=ah.mk ((bZ:w.heap.size≤iP));replace HB:=ah.mk (aA aD hb);clear hb b9 hg;have FW:w6.cell? ⟨iP,0,none⟩=some (.string bB):=(af eu.out 0).trans rfl;have FX:w6.cell? ⟨iP,1,none⟩=some (.string b7):=(af eu.out 1).trans rfl;have Sz:w6.cell? ⟨iP,2,none⟩=some (.bool cD):=(af eu.out 2).trans rfl;have SA:w6.cell? ⟨iP,3,none⟩=some (.int .u8 bM):=(af eu.out 3).trans rfl;have SB:w6.cell? ⟨iP,4,none⟩=some (.int .i64 bS):=(af eu.out 4).trans rfl;have aef:w6.cell? ⟨iP,5,none⟩=some (.int .i64 cr):=(af eu.out 5).trans rfl;have FY:=aa eu.out 0;have FZ:=aa eu.out 1;have SC:=aa eu.out 2;have SD:=aa eu.out 3;have SE:=aa eu.out 4;have aeg:=aa eu.out 5)|((with_reducible refine bq (f:=95) rfl ?_);refine cK (some 6) rfl rfl Tryz.func95 aR rfl #[.agg #[.bool false,.slice none 0 0,.string bB,.string b7,.bool cD]] rfl dc ?_;(refine (cU.calls k false _ _ ([]:List ByteArray) bB b7 cD true _ ?aX ?bF ?dU A2.out).mono ?_);(case aX=>exact Kd.QA _ _);(case bF=>exact Nat.le_refl _);(case dU=>exact bp.below HG.out aD);rintro e w8 ⟨rfl,hb⟩;refine ⟨_,rfl,?_⟩;replace eu:=ah.mk (aC (by exact eu.out) hb);replace HB:=ah.mk (aA aD hb);(try clear hb);have Fm:w8.cell? ⟨iP,0,none⟩=some (.string bB):=(af eu.out 0).trans rfl;have Fp:w8.cell? ⟨iP,1,none⟩=some (.string b7):=(af eu.out 1).trans rfl;have aeb:w8.cell? ⟨iP,2,none⟩=some (.bool cD):=(af eu.out 2).trans rfl;have aCx:w8.cell? ⟨iP,3,none⟩=some (.int .u8 bM):=(af eu.out 3).trans rfl;have aCy:w8.cell? ⟨iP,4,none⟩=some (.int .i64 bS):=(af eu.out 4).trans rfl;have aCz:w8.cell? ⟨iP,5,none⟩=some (.int .i64 cr):=(af eu.out 5).trans rfl;have Fq:=aa eu.out 0;have Fu:=aa eu.out 1;have aec:=aa eu.out 2;have aCA:=aa eu.out 3;have aCB:=aa eu.out 4;have aCC:=aa eu.out 5)|((with_reducible refine bI (N:=17) rfl ?_);(try (refine bT (by rfl) ?_;dsimp only));refine Kd.kZ (Kd.int .i64) _ 3 ?hg (N:=17) ?hd (xs:=([bS,cr]:List Int)) (inner:=[.int .i64 bS,.int .i64 cr]) (ok:=fun _ =>True) (oQ:=fun _ =>True) ?hr ?hp (fun _ hk=>hk) trivial (Below.refl _ _) (Nat.le_refl _) cO ?_;(case hd=>rfl);(case hg=>rfl);(case hr=>(go_simp;done));(case hp=>exact (dn.one (show Kd.M (Kd.int .i64) _ _ _ bS [.int .i64 bS] from rfl) (dn.one (show Kd.M (Kd.int .i64) _ _ _ cr [.int .i64 cr] from rfl) (dn.none _ _))));intro aJK sI aeh hb qc fV;clear qc fV;(rw [← ajr.out] at aeh);have SG:=ah.mk (Kd.cN aeh (bL aD));replace eu:=ah.mk (aC (by exact eu.out) hb);replace HB:=ah.mk (aA aD hb);clear hb aeh;obtain ⟨aJL,aJM,aCD⟩:=Kd.cM SG.out;subst aCD)|(go_at_call 102;(with_reducible refine (cV.calls k _ _ ajq t223 _ ?aX ?bF A5.out).mono ?_);(case aX=>repeat (exact (Kd.aZ SG.out).2.2));(case bF=>exact (Kd.aZ SG.out).2.1);rintro e w' ⟨rfl,⟨nd,rfl⟩⟩))
   go_ret
   exact ⟨by rfl,dG⟩
  ·rw [if_neg c4] at H
   have oU:=decide_eq_false c4
   clear c4
   obtain rfl:=Option.some.inj H
   go_enter Tryz.func118,Tryz.ntmps118
   go_wp2_with (first|((with_reducible refine bI (N:=1) rfl ?_);(try (refine bT (by rfl) ?_;dsimp only));refine bR ?hg (N:=1) ?hd (cs:=#[.string bB,.string b7,.bool cD,.int .u8 bM,.int .i64 bS,.int .i64 cr]) (t:=37) ?hr ?_;(case hd=>rfl);(case hg=>rfl);(case hr=>(go_simp;done));intro iP hg rX b9 hb;have eu:=ah.mk (b9);have ach:=ah.mk ((bZ:w.heap.size≤iP));have aci:=ah.mk ((bZ:w.heap.size≤iP));replace HB:=ah.mk (aA aD hb);clear hb b9 hg;have Dm:rX.cell? ⟨iP,0,none⟩=some (.string bB):=(af eu.out 0).trans rfl;have Dn:rX.cell? ⟨iP,1,none⟩=some (.string b7):=(af eu.out 1).trans rfl;have Dp:rX.cell? ⟨iP,2,none⟩=some (.bool cD):=(af eu.out 2).trans rfl;have Dq:rX.cell? ⟨iP,3,none⟩=some (.int .u8 bM):=(af eu.out 3).trans rfl;have Dr:rX.cell? ⟨iP,4,none⟩=some (.int .i64 bS):=(af eu.out 4).trans rfl;have Ds:rX.cell? ⟨iP,5,none⟩=some (.int .i64 cr):=(af eu.out 5).trans rfl;have Dt:=aa eu.out 0;have Du:=aa eu.out 1;have Dv:=aa eu.out 2;have Dw:=aa eu.out 3;have Dx:=aa eu.out 4;have Dy:=aa eu.out 5)|((with_reducible refine bq (f:=95) rfl ?_);refine cK (some 6) rfl rfl Tryz.func95 aR rfl #[.agg #[.bool false,.slice none 0 0,.string bB,.string b7,.bool cD]] rfl dc ?_;(refine (cU.calls k false _ _ ([]:List ByteArray) bB b7 cD true _ ?aX ?bF ?dU A2.out).mono ?_);(case aX=>exact Kd.QA _ _);(case bF=>exact Nat.le_refl _);(case dU=>exact bp.below HG.out aD);rintro e uC ⟨rfl,hb⟩;refine ⟨_,rfl,?_⟩;replace eu:=ah.mk (aC (by exact eu.out) hb);replace HB:=ah.mk (aA aD hb);(try clear hb);have FJ:uC.cell? ⟨iP,0,none⟩=some (.string bB):=(af eu.out 0).trans rfl;have FL:uC.cell? ⟨iP,1,none⟩=some (.string b7):=(af eu.out 1).trans rfl;have FM:uC.cell? ⟨iP,2,none⟩=some (.bool cD):=(af eu.out 2).trans rfl;have FN:uC.cell? ⟨iP,3,none⟩=some (.int .u8 bM):=(af eu.out 3).trans rfl;have FO:uC.cell? ⟨iP,4,none⟩=some (.int .i64 bS):=(af eu.out 4).trans rfl;have NW:uC.cell? ⟨iP,5,none⟩=some (.int .i64 cr):=(af eu.out 5).trans rfl;have FP:=aa eu.out 0;have FQ:=aa eu.out 1;have FT:=aa eu.out 2;have FU:=aa eu.out 3;have FV:=aa eu.out 4;have NY:=aa eu.out 5))
   go_ret
   exact ⟨by rfl,aD⟩
 ·replace c3:=Bool.eq_false_iff.mpr c3
  subst c3
  rw [if_neg (show ¬ (false=true) by decide)] at H
  obtain rfl:=Option.some.inj H
  go_enter Tryz.func118,Tryz.ntmps118
  go_wp2_with (first|((with_reducible refine bI (N:=1) rfl ?_);(try (refine bT (by rfl) ?_;dsimp only));refine bR ?hg (N:=1) ?hd (cs:=#[.string bB,.string b7,.bool cD,.int .u8 bM,.int .i64 bS,.int .i64 cr]) (t:=37) ?hr ?_;(case hd=>rfl);(case hg=>rfl);(case hr=>(go_simp;done));intro iP hg wj b9 hb;have eu:=ah.mk (b9);have ach:=ah.mk ((bZ:w.heap.size≤iP));have aci:=ah.mk ((bZ:w.heap.size≤iP));replace HB:=ah.mk (aA aD hb);clear hb b9 hg;have ya:wj.cell? ⟨iP,0,none⟩=some (.string bB):=(af eu.out 0).trans rfl;have yc:wj.cell? ⟨iP,1,none⟩=some (.string b7):=(af eu.out 1).trans rfl;have yf:wj.cell? ⟨iP,2,none⟩=some (.bool cD):=(af eu.out 2).trans rfl;have yg:wj.cell? ⟨iP,3,none⟩=some (.int .u8 bM):=(af eu.out 3).trans rfl;have yh:wj.cell? ⟨iP,4,none⟩=some (.int .i64 bS):=(af eu.out 4).trans rfl;have AE:wj.cell? ⟨iP,5,none⟩=some (.int .i64 cr):=(af eu.out 5).trans rfl;have yj:=aa eu.out 0;have yl:=aa eu.out 1;have ym:=aa eu.out 2;have yq:=aa eu.out 3;have yt:=aa eu.out 4;have AG:=aa eu.out 5)|((with_reducible refine bq (f:=95) rfl ?_);refine cK (some 6) rfl rfl Tryz.func95 aR rfl #[.agg #[.bool false,.slice none 0 0,.string bB,.string b7,.bool cD]] rfl dc ?_;(refine (cU.calls k false _ _ ([]:List ByteArray) bB b7 cD false _ ?aX ?bF ?dU A2.out).mono ?_);(case aX=>exact Kd.QA _ _);(case bF=>exact Nat.le_refl _);(case dU=>exact bp.below HG.out aD);rintro e w19 ⟨rfl,hb⟩;refine ⟨_,rfl,?_⟩;replace eu:=ah.mk (aC (by exact eu.out) hb);replace HB:=ah.mk (aA aD hb);(try clear hb)))
  go_ret
  exact ⟨by rfl,aD⟩
def lI.f (k:Nat) (bB:ByteArray) (b7:ByteArray) (cD:Bool) (bM:Int) (bS:Int) (cr:Int):Option (Bool):=(pJ.f k bB b7 cD bM bS cr).bind fun t225=>(some (!t225))
theorem lI.calls (k:Nat) (bB:ByteArray) (b7:ByteArray) (cD:Bool) (bM:Int) (bS:Int) (cr:Int) (r:Bool) (w:World) (hG:bp w) (h:lI.f k bB b7 cD bM bS cr=some r):
 Calls Tryz.prog 117 #[.agg #[.string bB,.string b7,.bool cD,.int .u8 bM,.int .i64 bS,.int .i64 cr]] w fun e w'=>e= .returned (.bool r)∧Below w.heap.size w w':=by
 have ade:=Tryz.underlying37
 have HB:=ah.mk (Below.refl w.heap.size w)
 have HG:=ah.mk hG
 clear hG
 have H:((pJ.f k bB b7 cD bM bS cr).bind fun t225=>(some (!t225)))=some r:=h
 clear h
 obtain ⟨t225,A2,H⟩:=bd_ H
 obtain rfl:=Option.some.inj H
 go_enter Tryz.func117,Tryz.ntmps117
 go_wp2_with (first|((with_reducible refine bI (N:=1) rfl ?_);refine bR ?hg (N:=1) ?hd (cs:=#[.string bB,.string b7,.bool cD,.int .u8 bM,.int .i64 bS,.int .i64 cr]) (t:=37) ?hr ?_;(case hd=>rfl);(case hg=>rfl);(case hr=>(go_simp;done));intro zX hg w3 b9 hb;have rJ:=ah.mk (b9);have aGP:=ah.mk ((bZ:w.heap.size≤zX));have aGQ:=ah.mk ((bZ:w.heap.size≤zX));replace HB:=ah.mk (aA aD hb);clear hb b9 hg;have aei:w3.cell? ⟨zX,0,none⟩=some (.string bB):=(af rJ.out 0).trans rfl;have aej:w3.cell? ⟨zX,1,none⟩=some (.string b7):=(af rJ.out 1).trans rfl;have aek:w3.cell? ⟨zX,2,none⟩=some (.bool cD):=(af rJ.out 2).trans rfl;have ael:w3.cell? ⟨zX,3,none⟩=some (.int .u8 bM):=(af rJ.out 3).trans rfl;have aem:w3.cell? ⟨zX,4,none⟩=some (.int .i64 bS):=(af rJ.out 4).trans rfl;have aen:w3.cell? ⟨zX,5,none⟩=some (.int .i64 cr):=(af rJ.out 5).trans rfl;have aeo:=aa rJ.out 0;have aep:=aa rJ.out 1;have aer:=aa rJ.out 2;have aes:=aa rJ.out 3;have aet:=aa rJ.out 4;have aeu:=aa rJ.out 5)|((with_reducible refine bq (f:=118) rfl ?_);refine cK (some 4) rfl rfl Tryz.func118 aR rfl #[.agg #[.string bB,.string b7,.bool cD,.int .u8 bM,.int .i64 bS,.int .i64 cr]] rfl dc ?_;(with_reducible refine (pJ.calls k bB b7 cD bM bS cr t225 _ ?aX A2.out).mono ?_);(case aX=>exact bp.below HG.out aD);rintro e w5 ⟨rfl,hb⟩;refine ⟨_,rfl,?_⟩;replace rJ:=ah.mk (aC (by exact rJ.out) hb);replace HB:=ah.mk (aA aD hb);(try clear hb)))
 go_ret
 exact ⟨by rfl,aD⟩
end Go.Proofs.YtbjjaaodfbjkfaaGreatDoor.qb
