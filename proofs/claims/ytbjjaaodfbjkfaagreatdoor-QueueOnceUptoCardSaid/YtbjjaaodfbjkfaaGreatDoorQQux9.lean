import Derived.Test.YtbjjaaodfbjkfaaGreatDoorQQux8
import Derived.Test.YtbjjaaodfbjkfaaGreatDoorWRepsOne
set_option maxHeartbeats 8000000
set_option maxRecDepth 100000
namespace Go.Proofs.YtbjjaaodfbjkfaaGreatDoor.mU
open Go.RowKit Go.Proofs.YtbjjaaodfbjkfaaGreatDoor.yN Go.Proofs.ak.bR Go.Proofs.ak.dz Go.Proofs.ak.cZ
attribute [local go_sem] iR iT jW jX gW gX jh ji
set_option linter.unusedVariables false
set_option linter.unusedSimpArgs false
attribute [local go_sem high] Oc
def gN.f (k:Nat) (a0:ByteArray):Option (Bool):=(jr.f k a0).bind fun t190=>(some (!t190))
theorem gN.mono:∀ a0 k,eZ (gN.f k a0) (gN.f (k + 1) a0):=by
 intro a0 k
 unfold gN.f
 repeat' (with_reducible first|exact jr.mono _ _|exact eZ.refl _|refine eZ.bind ?_ (fun _ =>?_))
theorem gN.calls (k:Nat) (a0:ByteArray) (r:Bool) (w:World) (hG:bq w) (h:gN.f k a0=some r):
 Calls Tryz.prog 144 #[.string a0] w fun e w'=>e= .returned (.bool r)∧Below w.heap.size w w':=by
 have HB:=ah.mk (Below.refl w.heap.size w)
 have HG:=ah.mk hG
 clear hG
 have H:((jr.f k a0).bind fun t190=>(some (!t190)))=some r:=h
 clear h
 obtain ⟨t190,A2,H⟩:=bd_ H
 obtain rfl:=Option.some.inj H
 go_enter Tryz.func144,Tryz.ntmps144
 go_wp2_with (((with_reducible refine bK (f:=145) rfl ?_);refine dB (some 4) rfl rfl Tryz.func145 aq rfl #[.string a0] rfl dK ?_;(with_reducible refine (jr.calls k a0 t190 _ ?bn A2.out).mono ?_);(case bn=>exact bq.below HG.out aJ);rintro e w3 ⟨rfl,hb⟩;refine ⟨_,rfl,?_⟩;replace HB:=ah.mk (ay aJ hb);(try clear hb)))
 go_ret
 exact ⟨by rfl,aJ⟩
def aM.l0:Nat→List ByteArray→Int→Int→Option (Int)
 | 0,_,_,_ =>none
 |k + 1,x0,x7,x8=>if x8 < x7 then (if 0≤x8 then (if x8 < (x0.length:Int) then ((gN.f k (nu ByteArray.empty x0 x8)).bind fun t192=>(if t192=true then (some x8) else (aM.l0 k x0 x7 (wrap64 (x8 + 1))))) else (none)) else (none)) else (some (-1))
def aM.f (k:Nat) (l0:List ByteArray):Option (Int):=aM.l0 k l0 (l0.length:Int) 0
theorem aM.ey:∀ k,(∀ y0 y1 y2,eZ (aM.l0 k y0 y1 y2) (aM.l0 (k + 1) y0 y1 y2))
 | 0=>fun _ _ _ r h=>by simp [aM.l0] at h
 |k + 1=>by
  have mH:=aM.ey k
  ·intro y0 y1 y2
   unfold aM.l0
   repeat' (with_reducible first|exact mH _ _ _|exact gN.mono _ _|exact eZ.refl _|refine eZ.ite ?_ ?_|refine eZ.bind ?_ (fun _ =>?_))
theorem aM.mono:∀ a0 k,eZ (aM.f k a0) (aM.f (k + 1) a0):=by
 intro a0 k
 have mH:=aM.ey k
 unfold aM.f
 repeat' (with_reducible exact mH _ _ _)
theorem aM.calls (k:Nat) (A0:Option Addr) (c0:Nat) (l0:List ByteArray) (r:Int) (w:World) (nK:Kd.C Kd.string w A0 l0.length l0) (hc0:l0.length≤c0) (hG:bq w) (h:aM.f k l0=some r):
 Calls Tryz.prog 184 #[.slice A0 l0.length c0,.func (.func 144) #[] #[]] w fun e w'=>e= .returned (.int .i64 r)∧Below w.heap.size w w':=by
 have q9:=ah.mk nK
 have Fy:=ah.mk hc0
 clear nK hc0
 have HB:=ah.mk (Below.refl w.heap.size w)
 have HG:=ah.mk hG
 clear hG
 have H:(aM.l0 k l0 (l0.length:Int) 0)=some r:=h
 clear h
 have H':=ah.mk H
 clear H
 go_enter Tryz.func184,Tryz.ntmps184
 go_wp2
 go_loopg [8] k (fun kq v8 w'=>∃ (fY:Int),v8= .int .i64 fY∧ah (aM.l0 kq l0 (l0.length:Int) fY=some r)∧ah (kq≤k)∧ah (Below w.heap.size w w'))
 case atStart=>exact ⟨(0),(by rfl),H',⟨Nat.le_refl _⟩,⟨aJ⟩⟩
 case round=>
  clear H'
  obtain ⟨fY,rfl,HA,qi,HB⟩:=hrel
  cases gk with
  |zero=>exact absurd HA.out (by simp [aM.l0])
  |succ k1=>
   have H:=HA.out
   clear HA
   simp only [aM.l0] at H
   by_cases c3:fY < (l0.length:Int)
   ·rw [if_pos c3] at H
    have ny:=decide_eq_true c3
    clear c3
    obtain ⟨c4,H⟩:=lO H
    have mQ:=decide_eq_true c4
    clear c4
    obtain ⟨c5,H⟩:=lO H
    have p8:=decide_eq_true c5
    clear c5
    obtain ⟨t192,A6,H⟩:=bd_ H
    by_cases c7:t192=true
    ·subst c7
     rw [if_pos rfl] at H
     obtain rfl:=Option.some.inj H
     have MA: 0≤(fY:Int):=of_decide_eq_true cj
     have MB:fY < (l0.length:Int):=of_decide_eq_true cj
     obtain ⟨afH,acS,ur⟩:=Kd.j5 q9.out fY MA MB
     cases acS
     replace ur:=(HB.out.cell (World.block_lt_of_cell? w _ ur)).trans ur
     replace MA:=eq_true MA
     replace MB:=eq_true MB
     go_wp2_with ((go_at_call 144;(with_reducible refine (gN.calls k1 (nu ByteArray.empty l0 fY) true _ ?bn A6.out).mono ?_);(case bn=>exact bq.below HG.out aJ);rintro e w8 ⟨rfl,hb⟩;replace HB:=ah.mk (ay aJ hb);(try clear hb)))
     go_ret
     exact ⟨by rfl,aJ⟩
    ·replace c7:=Bool.eq_false_iff.mpr c7
     subst c7
     rw [if_neg (show ¬ (false=true) by decide)] at H
     have H':=ah.mk H
     clear H
     have MA: 0≤(fY:Int):=of_decide_eq_true cj
     have MB:fY < (l0.length:Int):=of_decide_eq_true cj
     obtain ⟨afH,acS,ur⟩:=Kd.j5 q9.out fY MA MB
     cases acS
     replace ur:=(HB.out.cell (World.block_lt_of_cell? w _ ur)).trans ur
     replace MA:=eq_true MA
     replace MB:=eq_true MB
     go_wp2_with ((go_at_call 144;(with_reducible refine (gN.calls k1 (nu ByteArray.empty l0 fY) false _ ?bn A6.out).mono ?_);(case bn=>exact bq.below HG.out aJ);rintro e w9 ⟨rfl,hb⟩;replace HB:=ah.mk (ay aJ hb);(try clear hb)))
     go_roundg k1
     case measure=>have:=qi.out;omega
     case rel=>exact ⟨(wrap64 (fY + 1)),(by rfl),H',⟨lu⟩,⟨aJ⟩⟩
   ·rw [if_neg c3] at H
    have ny:=decide_eq_false c3
    clear c3
    obtain rfl:=Option.some.inj H
    go_wp2
    go_ret
    exact ⟨by rfl,aJ⟩
def bE.f (k:Nat) (l0:List ByteArray):Option (Bool):=(aM.f k l0).bind fun t193=>(some (decide (t193≥0)))
theorem bE.mono:∀ a0 k,eZ (bE.f k a0) (bE.f (k + 1) a0):=by
 intro a0 k
 unfold bE.f
 repeat' (with_reducible first|exact aM.mono _ _|exact eZ.refl _|refine eZ.bind ?_ (fun _ =>?_))
theorem bE.calls (k:Nat) (A0:Option Addr) (c0:Nat) (l0:List ByteArray) (r:Bool) (w:World) (nK:Kd.C Kd.string w A0 l0.length l0) (hc0:l0.length≤c0) (hG:bq w) (h:bE.f k l0=some r):
 Calls Tryz.prog 140 #[.slice A0 l0.length c0,.func (.func 144) #[] #[]] w fun e w'=>e= .returned (.bool r)∧Below w.heap.size w w':=by
 have q9:=ah.mk nK
 have Fy:=ah.mk hc0
 clear nK hc0
 have HB:=ah.mk (Below.refl w.heap.size w)
 have HG:=ah.mk hG
 clear hG
 have H:((aM.f k l0).bind fun t193=>(some (decide (t193≥0))))=some r:=h
 clear h
 obtain ⟨t193,A3,H⟩:=bd_ H
 obtain rfl:=Option.some.inj H
 go_enter Tryz.func140,Tryz.ntmps140
 go_wp2_with (((with_reducible refine bK (f:=184) rfl ?_);refine dB (some 7) rfl rfl Tryz.func184 aq rfl #[.slice A0 l0.length c0,.func (.func 144) #[] #[]] rfl dK ?_;(with_reducible refine (aM.calls k _ _ l0 t193 _ ?bn ?bN ?cW A3.out).mono ?_);(case bn=>repeat (exact q9.out));(case bN=>exact Fy.out);(case cW=>exact bq.below HG.out aJ);rintro e w4 ⟨rfl,hb⟩;refine ⟨_,rfl,?_⟩;replace HB:=ah.mk (ay aJ hb);(try clear hb)))
 go_ret
 exact ⟨by rfl,aJ⟩
def dM.f (k:Nat) (bg:Bool) (aI:List ByteArray) (cE:ByteArray) (bD:ByteArray) (bI:Bool):Option (Bool):=if bg=true then (if (aI.length:Int)=0 then (some (cE.toList == ([]:List UInt8) && (bD.toList == ([]:List UInt8) && (!bI)))) else (some false)) else (if (cE.toList == ([112,111,115,116,109,97,115,116,101,114]:List UInt8) && (bD.toList == ([]:List UInt8) && (!bI)))=true then (some ((aI.length:Int) == 0)) else ((cI.f k cE bD bI).bind fun t195=>(if t195=true then (if (aI.length:Int)≤20 then ((bE.f k aI).bind fun t196=>(some (!t196))) else (some false)) else (some false))))
theorem dM.mono:∀ a0 a1 a2 a3 a4 k,eZ (dM.f k a0 a1 a2 a3 a4) (dM.f (k + 1) a0 a1 a2 a3 a4):=by
 intro a0 a1 a2 a3 a4 k
 unfold dM.f
 repeat' (with_reducible first|exact cI.mono _ _ _ _|exact bE.mono _ _|exact eZ.refl _|refine eZ.ite ?_ ?_|refine eZ.bind ?_ (fun _ =>?_))
theorem dM.calls (k:Nat) (bg:Bool) (jk:Option Addr) (ia:Nat) (aI:List ByteArray) (cE:ByteArray) (bD:ByteArray) (bI:Bool) (r:Bool) (w:World) (nX:Kd.C Kd.string w jk aI.length aI) (nY:aI.length≤ia) (hG:bq w) (h:dM.f k bg aI cE bD bI=some r):
 Calls Tryz.prog 95 #[.agg #[.bool bg,.slice jk aI.length ia,.string cE,.string bD,.bool bI]] w fun e w'=>e= .returned (.bool r)∧Below w.heap.size w w':=by
 have Wy:=Tryz.underlying31
 have KD:=Tryz.underlying29
 have rI:=ah.mk nX
 have Ea:=ah.mk nY
 clear nX nY
 have HB:=ah.mk (Below.refl w.heap.size w)
 have HG:=ah.mk hG
 clear hG
 have H:(if bg=true then (if (aI.length:Int)=0 then (some (cE.toList == ([]:List UInt8) && (bD.toList == ([]:List UInt8) && (!bI)))) else (some false)) else (if (cE.toList == ([112,111,115,116,109,97,115,116,101,114]:List UInt8) && (bD.toList == ([]:List UInt8) && (!bI)))=true then (some ((aI.length:Int) == 0)) else ((cI.f k cE bD bI).bind fun t195=>(if t195=true then (if (aI.length:Int)≤20 then ((bE.f k aI).bind fun t196=>(some (!t196))) else (some false)) else (some false)))))=some r:=h
 clear h
 by_cases c2:bg=true
 ·subst c2
  rw [if_pos rfl] at H
  by_cases c3:(aI.length:Int)=0
  ·rw [if_pos c3] at H
   have ny:=beq_iff_eq.mpr c3
   have xX:=bne_eq_false_iff_eq.mpr c3
   clear c3
   obtain rfl:=Option.some.inj H
   go_enter Tryz.func95,Tryz.ntmps95
   go_wp2_with (((with_reducible refine bp (N:=1) rfl ?_);(try (refine bV (by rfl) ?_;dsimp only));refine br ?hg (N:=1) ?hd (cs:=#[.bool true,.slice jk aI.length ia,.string cE,.string bD,.bool bI]) (t:=31) ?hr ?_;(case hd=>rfl);(case hg=>rfl);(case hr=>(go_simp;done));intro fQ hg w4 bG hb;have dx:=ah.mk (bG);have KT:=ah.mk ((bF:w.heap.size≤fQ));have KU:=ah.mk ((bF:w.heap.size≤fQ));replace HB:=ah.mk (ay aJ hb);clear hb bG hg;have TZ:w4.cell? ⟨fQ,0,none⟩=some (.bool true):=(af dx.out 0).trans rfl;have T4:w4.cell? ⟨fQ,1,none⟩=some (.slice jk aI.length ia):=(af dx.out 1).trans rfl;have acO:w4.cell? ⟨fQ,2,none⟩=some (.string cE):=(af dx.out 2).trans rfl;have axV:w4.cell? ⟨fQ,3,none⟩=some (.string bD):=(af dx.out 3).trans rfl;have axW:w4.cell? ⟨fQ,4,none⟩=some (.bool bI):=(af dx.out 4).trans rfl;have T6:=aa dx.out 0;have T7:=aa dx.out 1;have acP:=aa dx.out 2;have axX:=aa dx.out 3;have axY:=aa dx.out 4))
   go_ret
   exact ⟨by rfl,aJ⟩
  ·rw [if_neg c3] at H
   have ny:=beq_eq_false_iff_ne.mpr c3
   have xX:=bne_iff_ne.mpr c3
   have RB: ¬ (aI= []):=fun h_ =>c3 (by rw [h_];rfl)
   obtain rfl:=Option.some.inj H
   go_enter Tryz.func95,Tryz.ntmps95
   go_wp2_with (((with_reducible refine bp (N:=1) rfl ?_);(try (refine bV (by rfl) ?_;dsimp only));refine br ?hg (N:=1) ?hd (cs:=#[.bool true,.slice jk aI.length ia,.string cE,.string bD,.bool bI]) (t:=31) ?hr ?_;(case hd=>rfl);(case hg=>rfl);(case hr=>(go_simp;done));intro fQ hg w6 bG hb;have dx:=ah.mk (bG);have KT:=ah.mk ((bF:w.heap.size≤fQ));have KU:=ah.mk ((bF:w.heap.size≤fQ));replace HB:=ah.mk (ay aJ hb);clear hb bG hg;have G7:w6.cell? ⟨fQ,0,none⟩=some (.bool true):=(af dx.out 0).trans rfl;have G8:w6.cell? ⟨fQ,1,none⟩=some (.slice jk aI.length ia):=(af dx.out 1).trans rfl;have Ug:w6.cell? ⟨fQ,2,none⟩=some (.string cE):=(af dx.out 2).trans rfl;have Uh:w6.cell? ⟨fQ,3,none⟩=some (.string bD):=(af dx.out 3).trans rfl;have Ui:w6.cell? ⟨fQ,4,none⟩=some (.bool bI):=(af dx.out 4).trans rfl;have G9:=aa dx.out 0;have He:=aa dx.out 1;have Uj:=aa dx.out 2;have Uk:=aa dx.out 3;have Ul:=aa dx.out 4))
   go_ret
   exact ⟨by rfl,aJ⟩
 ·replace c2:=Bool.eq_false_iff.mpr c2
  subst c2
  rw [if_neg (show ¬ (false=true) by decide)] at H
  by_cases c8:(cE.toList == ([112,111,115,116,109,97,115,116,101,114]:List UInt8) && (bD.toList == ([]:List UInt8) && (!bI)))=true
  ·rw [if_pos c8] at H
   have Ax:(cE.toList == ([112,111,115,116,109,97,115,116,101,114]:List UInt8) && (bD.toList == ([]:List UInt8) && (!bI)))=true:=c8
   have c8e:(cE.toList == ([112,111,115,116,109,97,115,116,101,114]:List UInt8))=true∧bD.toList.isEmpty=true∧(!bI)=true:=by {have c_ :=c8;simp only [Bool.and_eq_true] at c_;obtain ⟨h1_,h2_,h3_⟩:=c_;exact ⟨h1_,by rw [beq_iff_eq] at h2_;rw [h2_];rfl,h3_⟩}
   obtain ⟨c8f,c8g,c8h⟩:=c8e
   (try (have Mo:decide (cE.toList=([112,111,115,116,109,97,115,116,101,114]:List UInt8) && (bD.toList == ([]:List UInt8) && (!bI)))=true:=by simpa using c8))
   (try (have acH:(cE.toList == ([112,111,115,116,109,97,115,116,101,114]:List UInt8) && (bD.toList == ([]:List UInt8) && (!bI)))=true:=by simpa using c8))
   clear c8
   obtain rfl:=Option.some.inj H
   go_enter Tryz.func95,Tryz.ntmps95
   go_wp2_with (((with_reducible refine bp (N:=1) rfl ?_);(try (refine bV (by rfl) ?_;dsimp only));refine br ?hg (N:=1) ?hd (cs:=#[.bool false,.slice jk aI.length ia,.string cE,.string bD,.bool bI]) (t:=31) ?hr ?_;(case hd=>rfl);(case hg=>rfl);(case hr=>(go_simp;done));intro fQ hg w9 bG hb;have dx:=ah.mk (bG);have KT:=ah.mk ((bF:w.heap.size≤fQ));have KU:=ah.mk ((bF:w.heap.size≤fQ));replace HB:=ah.mk (ay aJ hb);clear hb bG hg;have GS:w9.cell? ⟨fQ,0,none⟩=some (.bool false):=(af dx.out 0).trans rfl;have GU:w9.cell? ⟨fQ,1,none⟩=some (.slice jk aI.length ia):=(af dx.out 1).trans rfl;have Od:w9.cell? ⟨fQ,2,none⟩=some (.string cE):=(af dx.out 2).trans rfl;have Oe:w9.cell? ⟨fQ,3,none⟩=some (.string bD):=(af dx.out 3).trans rfl;have Og:w9.cell? ⟨fQ,4,none⟩=some (.bool bI):=(af dx.out 4).trans rfl;have GV:=aa dx.out 0;have GW:=aa dx.out 1;have Oh:=aa dx.out 2;have Oi:=aa dx.out 3;have Oj:=aa dx.out 4))
   go_ret
   exact ⟨by rfl,aJ⟩
  ·rw [if_neg c8] at H
   have c8e:((cE.toList == ([112,111,115,116,109,97,115,116,101,114]:List UInt8))=true∧bD.toList.isEmpty=true∧(!bI)=true)=False:=eq_false (fun ⟨h1_,h2_,h3_⟩=>c8 (by rw [h1_,show (bD.toList == ([]:List UInt8))=true from by rw [beq_iff_eq];exact List.isEmpty_iff.mp h2_,h3_];rfl))
   have Ax:(cE.toList == ([112,111,115,116,109,97,115,116,101,114]:List UInt8) && (bD.toList == ([]:List UInt8) && (!bI)))=false:=by simpa using c8
   (try (have Mo:decide (cE.toList=([112,111,115,116,109,97,115,116,101,114]:List UInt8) && (bD.toList == ([]:List UInt8) && (!bI)))=false:=by simpa using c8))
   (try (have acH:(cE.toList == ([112,111,115,116,109,97,115,116,101,114]:List UInt8) && (bD.toList == ([]:List UInt8) && (!bI)))=false:=by simpa using c8))
   (try (have axK: ¬ (cE.toList=([112,111,115,116,109,97,115,116,101,114]:List UInt8) && (bD.toList == ([]:List UInt8) && (!bI))):=by simpa using c8))
   clear c8
   obtain ⟨t195,KC,H⟩:=bd_ H
   by_cases c12:t195=true
   ·subst c12
    rw [if_pos rfl] at H
    by_cases c13:(aI.length:Int)≤20
    ·rw [if_pos c13] at H
     have D8:=decide_eq_true c13
     have KS:decide (aI.length≤20)=true:=decide_eq_true az
     clear c13
     obtain ⟨t196,A14,H⟩:=bd_ H
     obtain rfl:=Option.some.inj H
     go_enter Tryz.func95,Tryz.ntmps95
     go_wp2_with (first|((with_reducible refine bp (N:=1) rfl ?_);(try (refine bV (by rfl) ?_;dsimp only));refine br ?hg (N:=1) ?hd (cs:=#[.bool false,.slice jk aI.length ia,.string cE,.string bD,.bool bI]) (t:=31) ?hr ?_;(case hd=>rfl);(case hg=>rfl);(case hr=>(go_simp;done));intro fQ hg vF bG hb;have dx:=ah.mk (bG);have KT:=ah.mk ((bF:w.heap.size≤fQ));have KU:=ah.mk ((bF:w.heap.size≤fQ));replace HB:=ah.mk (ay aJ hb);clear hb bG hg;have xz:vF.cell? ⟨fQ,0,none⟩=some (.bool false):=(af dx.out 0).trans rfl;have xA:vF.cell? ⟨fQ,1,none⟩=some (.slice jk aI.length ia):=(af dx.out 1).trans rfl;have xB:vF.cell? ⟨fQ,2,none⟩=some (.string cE):=(af dx.out 2).trans rfl;have xC:vF.cell? ⟨fQ,3,none⟩=some (.string bD):=(af dx.out 3).trans rfl;have xD:vF.cell? ⟨fQ,4,none⟩=some (.bool bI):=(af dx.out 4).trans rfl;have xE:=aa dx.out 0;have xG:=aa dx.out 1;have xH:=aa dx.out 2;have xI:=aa dx.out 3;have xJ:=aa dx.out 4)|((with_reducible refine bK (f:=143) rfl ?_);refine dB (some 25) rfl rfl Tryz.func143 aq rfl #[.agg #[.string cE,.string bD,.bool bI]] rfl dK ?_;(with_reducible refine (cI.calls k cE bD bI true _ ?bn KC.out).mono ?_);(case bn=>exact bq.below HG.out aJ);rintro e sN ⟨rfl,hb⟩;refine ⟨_,rfl,?_⟩;replace dx:=ah.mk (aA (by exact dx.out) hb);replace HB:=ah.mk (ay aJ hb);(try clear hb);have zD:sN.cell? ⟨fQ,0,none⟩=some (.bool false):=(af dx.out 0).trans rfl;have zE:sN.cell? ⟨fQ,1,none⟩=some (.slice jk aI.length ia):=(af dx.out 1).trans rfl;have C3:sN.cell? ⟨fQ,2,none⟩=some (.string cE):=(af dx.out 2).trans rfl;have C4:sN.cell? ⟨fQ,3,none⟩=some (.string bD):=(af dx.out 3).trans rfl;have C5:sN.cell? ⟨fQ,4,none⟩=some (.bool bI):=(af dx.out 4).trans rfl;have zF:=aa dx.out 0;have zG:=aa dx.out 1;have C6:=aa dx.out 2;have C7:=aa dx.out 3;have C8:=aa dx.out 4)|(go_at_call 140;(with_reducible refine (bE.calls k _ _ aI t196 _ ?bn ?bN ?cW A14.out).mono ?_);(case bn=>repeat (exact (Kd.bQ rI.out HB.out)));(case bN=>exact Ea.out);(case cW=>exact bq.below HG.out aJ);rintro e KV ⟨rfl,hb⟩;replace dx:=ah.mk (aA (by exact dx.out) hb);replace HB:=ah.mk (ay aJ hb);(try clear hb)))
     try any_goals (exact (c8e.mp mD).elim)
     go_ret
     exact ⟨by rfl,aJ⟩
    ·rw [if_neg c13] at H
     have D8:=decide_eq_false c13
     have KS:decide (aI.length≤20)=false:=decide_eq_false az
     clear c13
     obtain rfl:=Option.some.inj H
     go_enter Tryz.func95,Tryz.ntmps95
     go_wp2_with (first|((with_reducible refine bp (N:=1) rfl ?_);(try (refine bV (by rfl) ?_;dsimp only));refine br ?hg (N:=1) ?hd (cs:=#[.bool false,.slice jk aI.length ia,.string cE,.string bD,.bool bI]) (t:=31) ?hr ?_;(case hd=>rfl);(case hg=>rfl);(case hr=>(go_simp;done));intro fQ hg BX bG hb;have dx:=ah.mk (bG);have KT:=ah.mk ((bF:w.heap.size≤fQ));have KU:=ah.mk ((bF:w.heap.size≤fQ));replace HB:=ah.mk (ay aJ hb);clear hb bG hg;have Wz:BX.cell? ⟨fQ,0,none⟩=some (.bool false):=(af dx.out 0).trans rfl;have WA:BX.cell? ⟨fQ,1,none⟩=some (.slice jk aI.length ia):=(af dx.out 1).trans rfl;have WB:BX.cell? ⟨fQ,2,none⟩=some (.string cE):=(af dx.out 2).trans rfl;have WC:BX.cell? ⟨fQ,3,none⟩=some (.string bD):=(af dx.out 3).trans rfl;have WD:BX.cell? ⟨fQ,4,none⟩=some (.bool bI):=(af dx.out 4).trans rfl;have WE:=aa dx.out 0;have WG:=aa dx.out 1;have WH:=aa dx.out 2;have WI:=aa dx.out 3;have WJ:=aa dx.out 4)|((with_reducible refine bK (f:=143) rfl ?_);refine dB (some 25) rfl rfl Tryz.func143 aq rfl #[.agg #[.string cE,.string bD,.bool bI]] rfl dK ?_;(with_reducible refine (cI.calls k cE bD bI true _ ?bn KC.out).mono ?_);(case bn=>exact bq.below HG.out aJ);rintro e Vs ⟨rfl,hb⟩;refine ⟨_,rfl,?_⟩;replace dx:=ah.mk (aA (by exact dx.out) hb);replace HB:=ah.mk (ay aJ hb);(try clear hb);have WK:Vs.cell? ⟨fQ,0,none⟩=some (.bool false):=(af dx.out 0).trans rfl;have WL:Vs.cell? ⟨fQ,1,none⟩=some (.slice jk aI.length ia):=(af dx.out 1).trans rfl;have WM:Vs.cell? ⟨fQ,2,none⟩=some (.string cE):=(af dx.out 2).trans rfl;have WN:Vs.cell? ⟨fQ,3,none⟩=some (.string bD):=(af dx.out 3).trans rfl;have WO:Vs.cell? ⟨fQ,4,none⟩=some (.bool bI):=(af dx.out 4).trans rfl;have WQ:=aa dx.out 0;have WR:=aa dx.out 1;have WS:=aa dx.out 2;have WT:=aa dx.out 3;have WU:=aa dx.out 4))
     try any_goals (exact (c8e.mp mD).elim)
     go_ret
     exact ⟨by rfl,aJ⟩
   ·replace c12:=Bool.eq_false_iff.mpr c12
    subst c12
    rw [if_neg (show ¬ (false=true) by decide)] at H
    obtain rfl:=Option.some.inj H
    go_enter Tryz.func95,Tryz.ntmps95
    go_wp2_with (first|((with_reducible refine bp (N:=1) rfl ?_);(try (refine bV (by rfl) ?_;dsimp only));refine br ?hg (N:=1) ?hd (cs:=#[.bool false,.slice jk aI.length ia,.string cE,.string bD,.bool bI]) (t:=31) ?hr ?_;(case hd=>rfl);(case hg=>rfl);(case hr=>(go_simp;done));intro fQ hg yP bG hb;have dx:=ah.mk (bG);have KT:=ah.mk ((bF:w.heap.size≤fQ));have KU:=ah.mk ((bF:w.heap.size≤fQ));replace HB:=ah.mk (ay aJ hb);clear hb bG hg;have Dg:yP.cell? ⟨fQ,0,none⟩=some (.bool false):=(af dx.out 0).trans rfl;have Dh:yP.cell? ⟨fQ,1,none⟩=some (.slice jk aI.length ia):=(af dx.out 1).trans rfl;have Di:yP.cell? ⟨fQ,2,none⟩=some (.string cE):=(af dx.out 2).trans rfl;have Hq:yP.cell? ⟨fQ,3,none⟩=some (.string bD):=(af dx.out 3).trans rfl;have Hr:yP.cell? ⟨fQ,4,none⟩=some (.bool bI):=(af dx.out 4).trans rfl;have Dj:=aa dx.out 0;have Dk:=aa dx.out 1;have Dl:=aa dx.out 2;have Hs:=aa dx.out 3;have Ht:=aa dx.out 4)|((with_reducible refine bK (f:=143) rfl ?_);refine dB (some 25) rfl rfl Tryz.func143 aq rfl #[.agg #[.string cE,.string bD,.bool bI]] rfl dK ?_;(with_reducible refine (cI.calls k cE bD bI false _ ?bn KC.out).mono ?_);(case bn=>exact bq.below HG.out aJ);rintro e LU ⟨rfl,hb⟩;refine ⟨_,rfl,?_⟩;replace dx:=ah.mk (aA (by exact dx.out) hb);replace HB:=ah.mk (ay aJ hb);(try clear hb)))
    try any_goals (exact (c8e.mp mD).elim)
    go_ret
    exact ⟨by rfl,aJ⟩
def lT.f (a0:Int):Option (Bool):=if a0 < 0 then (some true) else (some (decide (a0 > 1099511627776)))
theorem lT.calls (a0:Int) (r:Bool) (w:World) (h:lT.f a0=some r):
 Calls Tryz.prog 163 #[.int .i64 a0] w fun e w'=>e= .returned (.bool r)∧iy w w':=by
 have H:(if a0 < 0 then (some true) else (some (decide (a0 > 1099511627776))))=some r:=h
 clear h
 by_cases c2:a0 < 0
 ·rw [if_pos c2] at H
  have Aw:=decide_eq_true c2
  clear c2
  obtain rfl:=Option.some.inj H
  go_enter Tryz.func163,Tryz.ntmps163
  go_wp2
  go_ret
  exact ⟨by rfl,mB⟩
 ·rw [if_neg c2] at H
  have Aw:=decide_eq_false c2
  clear c2
  obtain rfl:=Option.some.inj H
  go_enter Tryz.func163,Tryz.ntmps163
  go_wp2
  go_ret
  exact ⟨by rfl,mB⟩
def aR.l0:Nat→List Int→Int→Int→Option (Int)
 | 0,_,_,_ =>none
 |k + 1,x0,x7,x8=>if x8 < x7 then (if 0≤x8 then (if x8 < (x0.length:Int) then ((lT.f (rd x0 x8)).bind fun t198=>(if t198=true then (some x8) else (aR.l0 k x0 x7 (wrap64 (x8 + 1))))) else (none)) else (none)) else (some (-1))
def aR.f (k:Nat) (l0:List Int):Option (Int):=aR.l0 k l0 (l0.length:Int) 0
theorem aR.ey:∀ k,(∀ y0 y1 y2,eZ (aR.l0 k y0 y1 y2) (aR.l0 (k + 1) y0 y1 y2))
 | 0=>fun _ _ _ r h=>by simp [aR.l0] at h
 |k + 1=>by
  have mH:=aR.ey k
  ·intro y0 y1 y2
   unfold aR.l0
   repeat' (with_reducible first|exact mH _ _ _|exact eZ.refl _|refine eZ.ite ?_ ?_|refine eZ.bind ?_ (fun _ =>?_))
theorem aR.mono:∀ a0 k,eZ (aR.f k a0) (aR.f (k + 1) a0):=by
 intro a0 k
 have mH:=aR.ey k
 unfold aR.f
 repeat' (with_reducible exact mH _ _ _)
theorem aR.calls (k:Nat) (A0:Option Addr) (c0:Nat) (l0:List Int) (r:Int) (w:World) (nK:Kd.C (Kd.int .i64) w A0 l0.length l0) (hc0:l0.length≤c0) (h:aR.f k l0=some r):
 Calls Tryz.prog 129 #[.slice A0 l0.length c0,.func (.func 163) #[] #[]] w fun e w'=>e= .returned (.int .i64 r)∧iy w w':=by
 have q9:=ah.mk nK
 have Fy:=ah.mk hc0
 clear nK hc0
 have H:(aR.l0 k l0 (l0.length:Int) 0)=some r:=h
 clear h
 have H':=ah.mk H
 clear H
 go_enter Tryz.func129,Tryz.ntmps129
 go_wp2
 go_loopg [8] k (fun kq v8 w'=>∃ (fY:Int),v8= .int .i64 fY∧ah (aR.l0 kq l0 (l0.length:Int) fY=some r)∧ah (kq≤k)∧iy w w')
 case atStart=>exact ⟨(0),(by rfl),H',⟨Nat.le_refl _⟩,mB⟩
 case round=>
  clear H'
  obtain ⟨fY,rfl,HA,qi,⟨m1,rfl⟩⟩:=hrel
  cases gk with
  |zero=>exact absurd HA.out (by simp [aR.l0])
  |succ k1=>
   have H:=HA.out
   clear HA
   simp only [aR.l0] at H
   by_cases c3:fY < (l0.length:Int)
   ·rw [if_pos c3] at H
    have ny:=decide_eq_true c3
    clear c3
    obtain ⟨c4,H⟩:=lO H
    have mQ:=decide_eq_true c4
    clear c4
    obtain ⟨c5,H⟩:=lO H
    have p8:=decide_eq_true c5
    clear c5
    obtain ⟨t198,A6,H⟩:=bd_ H
    by_cases c7:t198=true
    ·subst c7
     rw [if_pos rfl] at H
     obtain rfl:=Option.some.inj H
     have MC: 0≤(fY:Int):=of_decide_eq_true cj
     have MD:fY < (l0.length:Int):=of_decide_eq_true cj
     obtain ⟨afI,acT,WV⟩:=Kd.uk q9.out fY MC MD
     cases acT
     replace MC:=eq_true MC
     replace MD:=eq_true MD
     go_wp2_with ((go_at_call 163;(with_reducible refine (lT.calls (rd l0 fY) true _ A6.out).mono ?_);rintro e w' ⟨rfl,⟨nd,rfl⟩⟩))
     go_ret
     exact ⟨by rfl,kQ⟩
    ·replace c7:=Bool.eq_false_iff.mpr c7
     subst c7
     rw [if_neg (show ¬ (false=true) by decide)] at H
     have H':=ah.mk H
     clear H
     have MC: 0≤(fY:Int):=of_decide_eq_true cj
     have MD:fY < (l0.length:Int):=of_decide_eq_true cj
     obtain ⟨afI,acT,WV⟩:=Kd.uk q9.out fY MC MD
     cases acT
     replace MC:=eq_true MC
     replace MD:=eq_true MD
     go_wp2_with ((go_at_call 163;(with_reducible refine (lT.calls (rd l0 fY) false _ A6.out).mono ?_);rintro e w' ⟨rfl,⟨nd,rfl⟩⟩))
     go_roundg k1
     case measure=>have:=qi.out;omega
     case rel=>exact ⟨(wrap64 (fY + 1)),(by rfl),H',⟨lu⟩,kQ⟩
   ·rw [if_neg c3] at H
    have ny:=decide_eq_false c3
    clear c3
    obtain rfl:=Option.some.inj H
    go_wp2
    go_ret
    exact ⟨by rfl,kQ⟩
def bY.f (k:Nat) (l0:List Int):Option (Bool):=(aR.f k l0).bind fun t199=>(some (decide (t199≥0)))
theorem bY.mono:∀ a0 k,eZ (bY.f k a0) (bY.f (k + 1) a0):=by
 intro a0 k
 unfold bY.f
 repeat' (with_reducible first|exact aR.mono _ _|exact eZ.refl _|refine eZ.bind ?_ (fun _ =>?_))
theorem bY.calls (k:Nat) (A0:Option Addr) (c0:Nat) (l0:List Int) (r:Bool) (w:World) (nK:Kd.C (Kd.int .i64) w A0 l0.length l0) (hc0:l0.length≤c0) (h:bY.f k l0=some r):
 Calls Tryz.prog 85 #[.slice A0 l0.length c0,.func (.func 163) #[] #[]] w fun e w'=>e= .returned (.bool r)∧iy w w':=by
 have q9:=ah.mk nK
 have Fy:=ah.mk hc0
 clear nK hc0
 have H:((aR.f k l0).bind fun t199=>(some (decide (t199≥0))))=some r:=h
 clear h
 obtain ⟨t199,A3,H⟩:=bd_ H
 obtain rfl:=Option.some.inj H
 go_enter Tryz.func85,Tryz.ntmps85
 go_wp2_with (((with_reducible refine bK (f:=129) rfl ?_);refine dB (some 7) rfl rfl Tryz.func129 aq rfl #[.slice A0 l0.length c0,.func (.func 163) #[] #[]] rfl dK ?_;(with_reducible refine (aR.calls k _ _ l0 t199 _ ?bn ?bN A3.out).mono ?_);(case bn=>repeat (exact q9.out));(case bN=>exact Fy.out);rintro e w' ⟨rfl,⟨nd,rfl⟩⟩;refine ⟨_,rfl,?_⟩))
 go_ret
 exact ⟨by rfl,kQ⟩
def cQ.f (k:Nat) (l0:List Int):Option (Bool):=(bY.f k l0).bind fun t200=>(some (!t200))
theorem cQ.mono:∀ a0 k,eZ (cQ.f k a0) (cQ.f (k + 1) a0):=by
 intro a0 k
 unfold cQ.f
 repeat' (with_reducible first|exact bY.mono _ _|exact eZ.refl _|refine eZ.bind ?_ (fun _ =>?_))
theorem cQ.calls (k:Nat) (A0:Option Addr) (c0:Nat) (l0:List Int) (r:Bool) (w:World) (nK:Kd.C (Kd.int .i64) w A0 l0.length l0) (hc0:l0.length≤c0) (h:cQ.f k l0=some r):
 Calls Tryz.prog 102 #[.slice A0 l0.length c0] w fun e w'=>e= .returned (.bool r)∧iy w w':=by
 have q9:=ah.mk nK
 have Fy:=ah.mk hc0
 clear nK hc0
 have H:((bY.f k l0).bind fun t200=>(some (!t200)))=some r:=h
 clear h
 obtain ⟨t200,A2,H⟩:=bd_ H
 obtain rfl:=Option.some.inj H
 go_enter Tryz.func102,Tryz.ntmps102
 go_wp2_with (((with_reducible refine bK (f:=85) rfl ?_);refine dB (some 4) rfl rfl Tryz.func85 aq rfl #[.slice A0 l0.length c0,.func (.func 163) #[] #[]] rfl dK ?_;(with_reducible refine (bY.calls k _ _ l0 t200 _ ?bn ?bN A2.out).mono ?_);(case bn=>repeat (exact q9.out));(case bN=>exact Fy.out);rintro e w' ⟨rfl,⟨nd,rfl⟩⟩;refine ⟨_,rfl,?_⟩))
 go_ret
 exact ⟨by rfl,kQ⟩
def kC.f (k:Nat) (bg:ByteArray) (bP:ByteArray) (cE:Bool) (bD:Int) (bI:Int) (bU:Int):Option (Bool):=(dM.f k false ([]:List ByteArray) bg bP cE).bind fun t202=>(if t202=true then (if bD≤2 then ((cQ.f k (([bI,bU]:List Int))).bind fun t206=>(some t206)) else (some false)) else (some false))
theorem kC.mono:∀ a0 a1 a2 a3 a4 a5 k,eZ (kC.f k a0 a1 a2 a3 a4 a5) (kC.f (k + 1) a0 a1 a2 a3 a4 a5):=by
 intro a0 a1 a2 a3 a4 a5 k
 unfold kC.f
 repeat' (with_reducible first|exact dM.mono _ _ _ _ _ _|exact cQ.mono _ _|exact eZ.refl _|refine eZ.ite ?_ ?_|refine eZ.bind ?_ (fun _ =>?_))
theorem kC.calls (k:Nat) (bg:ByteArray) (bP:ByteArray) (cE:Bool) (bD:Int) (bI:Int) (bU:Int) (r:Bool) (w:World) (hG:bq w) (h:kC.f k bg bP cE bD bI bU=some r):
 Calls Tryz.prog 118 #[.agg #[.string bg,.string bP,.bool cE,.int .u8 bD,.int .i64 bI,.int .i64 bU]] w fun e w'=>e= .returned (.bool r)∧Below w.heap.size w w':=by
 have ME:=Tryz.underlying37
 have KD:=Tryz.underlying29
 have Wy:=Tryz.underlying31
 have HB:=ah.mk (Below.refl w.heap.size w)
 have HG:=ah.mk hG
 clear hG
 have H:((dM.f k false ([]:List ByteArray) bg bP cE).bind fun t202=>(if t202=true then (if bD≤2 then ((cQ.f k (([bI,bU]:List Int))).bind fun t206=>(some t206)) else (some false)) else (some false)))=some r:=h
 clear h
 obtain ⟨t202,A2,H⟩:=bd_ H
 by_cases c3:t202=true
 ·subst c3
  rw [if_pos rfl] at H
  by_cases c4:bD≤2
  ·rw [if_pos c4] at H
   have mQ:=decide_eq_true c4
   clear c4
   obtain ⟨afJ,Um⟩:∃ y_:List Int,y_=(([bI,bU]:List Int)):=⟨_,rfl⟩
   replace H:((cQ.f k afJ).bind fun t206=>(some t206))=some r:=by (rw [Um];with_reducible exact H)
   have afK:=ah.mk Um
   clear Um
   obtain ⟨t206,A5,H⟩:=bd_ H
   obtain rfl:=Option.some.inj H
   go_enter Tryz.func118,Tryz.ntmps118
   go_wp2_with (first|((with_reducible refine bp (N:=1) rfl ?_);(try (refine bV (by rfl) ?_;dsimp only));refine br ?hg (N:=1) ?hd (cs:=#[.string bg,.string bP,.bool cE,.int .u8 bD,.int .i64 bI,.int .i64 bU]) (t:=37) ?hr ?_;(case hd=>rfl);(case hg=>rfl);(case hr=>(go_simp;done));intro jd hg w6 bG hb;have eY:=ah.mk (bG);have abn:=ah.mk ((bF:w.heap.size≤jd));have abo:=ah.mk ((bF:w.heap.size≤jd));replace HB:=ah.mk (ay aJ hb);clear hb bG hg;have G7:w6.cell? ⟨jd,0,none⟩=some (.string bg):=(af eY.out 0).trans rfl;have G8:w6.cell? ⟨jd,1,none⟩=some (.string bP):=(af eY.out 1).trans rfl;have Ug:w6.cell? ⟨jd,2,none⟩=some (.bool cE):=(af eY.out 2).trans rfl;have Uh:w6.cell? ⟨jd,3,none⟩=some (.int .u8 bD):=(af eY.out 3).trans rfl;have Ui:w6.cell? ⟨jd,4,none⟩=some (.int .i64 bI):=(af eY.out 4).trans rfl;have acU:w6.cell? ⟨jd,5,none⟩=some (.int .i64 bU):=(af eY.out 5).trans rfl;have G9:=aa eY.out 0;have He:=aa eY.out 1;have Uj:=aa eY.out 2;have Uk:=aa eY.out 3;have Ul:=aa eY.out 4;have acV:=aa eY.out 5)|((with_reducible refine bK (f:=95) rfl ?_);refine dB (some 6) rfl rfl Tryz.func95 aq rfl #[.agg #[.bool false,.slice none 0 0,.string bg,.string bP,.bool cE]] rfl dK ?_;(refine (dM.calls k false _ _ ([]:List ByteArray) bg bP cE true _ ?bn ?bN ?cW A2.out).mono ?_);(case bn=>exact Kd.mE _ _);(case bN=>exact Nat.le_refl _);(case cW=>exact bq.below HG.out aJ);rintro e w8 ⟨rfl,hb⟩;refine ⟨_,rfl,?_⟩;replace eY:=ah.mk (aA (by exact eY.out) hb);replace HB:=ah.mk (ay aJ hb);(try clear hb);have Ay:w8.cell? ⟨jd,0,none⟩=some (.string bg):=(af eY.out 0).trans rfl;have Az:w8.cell? ⟨jd,1,none⟩=some (.string bP):=(af eY.out 1).trans rfl;have Ue:w8.cell? ⟨jd,2,none⟩=some (.bool cE):=(af eY.out 2).trans rfl;have acW:w8.cell? ⟨jd,3,none⟩=some (.int .u8 bD):=(af eY.out 3).trans rfl;have acX:w8.cell? ⟨jd,4,none⟩=some (.int .i64 bI):=(af eY.out 4).trans rfl;have acY:w8.cell? ⟨jd,5,none⟩=some (.int .i64 bU):=(af eY.out 5).trans rfl;have AA:=aa eY.out 0;have AB:=aa eY.out 1;have Uf:=aa eY.out 2;have acZ:=aa eY.out 3;have ac0:=aa eY.out 4;have ac1:=aa eY.out 5)|((with_reducible refine bp (N:=17) rfl ?_);(try (refine bV (by rfl) ?_;dsimp only));refine Kd.mM (Kd.int .i64) _ 3 ?hg (N:=17) ?hd (xs:=([bI,bU]:List Int)) (inner:=[.int .i64 bI,.int .i64 bU]) (ok:=fun _ =>True) (pR:=fun _ =>True) ?hr ?hp (fun _ hk=>hk) trivial (Below.refl _ _) (Nat.le_refl _) cF ?_;(case hd=>rfl);(case hg=>rfl);(case hr=>(go_simp;done));(case hp=>exact (dJ.one (show Kd.M (Kd.int .i64) _ _ _ bI [.int .i64 bI] from rfl) (dJ.one (show Kd.M (Kd.int .i64) _ _ _ bU [.int .i64 bU] from rfl) (dJ.none _ _))));intro aD0 pF ac2 hb rz gS;clear rz gS;(rw [← afK.out] at ac2);have Un:=ah.mk (Kd.dX ac2 (b7 aJ));replace eY:=ah.mk (aA (by exact eY.out) hb);replace HB:=ah.mk (ay aJ hb);clear hb ac2;obtain ⟨aD1,aD2,axZ⟩:=Kd.dm Un.out;subst axZ)|(go_at_call 102;(with_reducible refine (cQ.calls k _ _ afJ t206 _ ?bn ?bN A5.out).mono ?_);(case bn=>repeat (exact (Kd.ck Un.out).2.2));(case bN=>exact (Kd.ck Un.out).2.1);rintro e w' ⟨rfl,⟨nd,rfl⟩⟩))
   go_ret
   exact ⟨by rfl,dZ⟩
  ·rw [if_neg c4] at H
   have mQ:=decide_eq_false c4
   clear c4
   obtain rfl:=Option.some.inj H
   go_enter Tryz.func118,Tryz.ntmps118
   go_wp2_with (first|((with_reducible refine bp (N:=1) rfl ?_);(try (refine bV (by rfl) ?_;dsimp only));refine br ?hg (N:=1) ?hd (cs:=#[.string bg,.string bP,.bool cE,.int .u8 bD,.int .i64 bI,.int .i64 bU]) (t:=37) ?hr ?_;(case hd=>rfl);(case hg=>rfl);(case hr=>(go_simp;done));intro jd hg kI bG hb;have eY:=ah.mk (bG);have abn:=ah.mk ((bF:w.heap.size≤jd));have abo:=ah.mk ((bF:w.heap.size≤jd));replace HB:=ah.mk (ay aJ hb);clear hb bG hg;have zx:kI.cell? ⟨jd,0,none⟩=some (.string bg):=(af eY.out 0).trans rfl;have zy:kI.cell? ⟨jd,1,none⟩=some (.string bP):=(af eY.out 1).trans rfl;have CN:kI.cell? ⟨jd,2,none⟩=some (.bool cE):=(af eY.out 2).trans rfl;have CO:kI.cell? ⟨jd,3,none⟩=some (.int .u8 bD):=(af eY.out 3).trans rfl;have CP:kI.cell? ⟨jd,4,none⟩=some (.int .i64 bI):=(af eY.out 4).trans rfl;have CQ:kI.cell? ⟨jd,5,none⟩=some (.int .i64 bU):=(af eY.out 5).trans rfl;have zz:=aa eY.out 0;have zA:=aa eY.out 1;have CR:=aa eY.out 2;have CS:=aa eY.out 3;have CT:=aa eY.out 4;have CU:=aa eY.out 5)|((with_reducible refine bK (f:=95) rfl ?_);refine dB (some 6) rfl rfl Tryz.func95 aq rfl #[.agg #[.bool false,.slice none 0 0,.string bg,.string bP,.bool cE]] rfl dK ?_;(refine (dM.calls k false _ _ ([]:List ByteArray) bg bP cE true _ ?bn ?bN ?cW A2.out).mono ?_);(case bn=>exact Kd.mE _ _);(case bN=>exact Nat.le_refl _);(case cW=>exact bq.below HG.out aJ);rintro e vF ⟨rfl,hb⟩;refine ⟨_,rfl,?_⟩;replace eY:=ah.mk (aA (by exact eY.out) hb);replace HB:=ah.mk (ay aJ hb);(try clear hb);have xz:vF.cell? ⟨jd,0,none⟩=some (.string bg):=(af eY.out 0).trans rfl;have xA:vF.cell? ⟨jd,1,none⟩=some (.string bP):=(af eY.out 1).trans rfl;have xB:vF.cell? ⟨jd,2,none⟩=some (.bool cE):=(af eY.out 2).trans rfl;have xC:vF.cell? ⟨jd,3,none⟩=some (.int .u8 bD):=(af eY.out 3).trans rfl;have xD:vF.cell? ⟨jd,4,none⟩=some (.int .i64 bI):=(af eY.out 4).trans rfl;have zB:vF.cell? ⟨jd,5,none⟩=some (.int .i64 bU):=(af eY.out 5).trans rfl;have xE:=aa eY.out 0;have xG:=aa eY.out 1;have xH:=aa eY.out 2;have xI:=aa eY.out 3;have xJ:=aa eY.out 4;have zC:=aa eY.out 5))
   go_ret
   exact ⟨by rfl,aJ⟩
 ·replace c3:=Bool.eq_false_iff.mpr c3
  subst c3
  rw [if_neg (show ¬ (false=true) by decide)] at H
  obtain rfl:=Option.some.inj H
  go_enter Tryz.func118,Tryz.ntmps118
  go_wp2_with (first|((with_reducible refine bp (N:=1) rfl ?_);(try (refine bV (by rfl) ?_;dsimp only));refine br ?hg (N:=1) ?hd (cs:=#[.string bg,.string bP,.bool cE,.int .u8 bD,.int .i64 bI,.int .i64 bU]) (t:=37) ?hr ?_;(case hd=>rfl);(case hg=>rfl);(case hr=>(go_simp;done));intro jd hg sN bG hb;have eY:=ah.mk (bG);have abn:=ah.mk ((bF:w.heap.size≤jd));have abo:=ah.mk ((bF:w.heap.size≤jd));replace HB:=ah.mk (ay aJ hb);clear hb bG hg;have zD:sN.cell? ⟨jd,0,none⟩=some (.string bg):=(af eY.out 0).trans rfl;have zE:sN.cell? ⟨jd,1,none⟩=some (.string bP):=(af eY.out 1).trans rfl;have C3:sN.cell? ⟨jd,2,none⟩=some (.bool cE):=(af eY.out 2).trans rfl;have C4:sN.cell? ⟨jd,3,none⟩=some (.int .u8 bD):=(af eY.out 3).trans rfl;have C5:sN.cell? ⟨jd,4,none⟩=some (.int .i64 bI):=(af eY.out 4).trans rfl;have G5:sN.cell? ⟨jd,5,none⟩=some (.int .i64 bU):=(af eY.out 5).trans rfl;have zF:=aa eY.out 0;have zG:=aa eY.out 1;have C6:=aa eY.out 2;have C7:=aa eY.out 3;have C8:=aa eY.out 4;have G6:=aa eY.out 5)|((with_reducible refine bK (f:=95) rfl ?_);refine dB (some 6) rfl rfl Tryz.func95 aq rfl #[.agg #[.bool false,.slice none 0 0,.string bg,.string bP,.bool cE]] rfl dK ?_;(refine (dM.calls k false _ _ ([]:List ByteArray) bg bP cE false _ ?bn ?bN ?cW A2.out).mono ?_);(case bn=>exact Kd.mE _ _);(case bN=>exact Nat.le_refl _);(case cW=>exact bq.below HG.out aJ);rintro e KV ⟨rfl,hb⟩;refine ⟨_,rfl,?_⟩;replace eY:=ah.mk (aA (by exact eY.out) hb);replace HB:=ah.mk (ay aJ hb);(try clear hb)))
  go_ret
  exact ⟨by rfl,aJ⟩
def ig.f (k:Nat) (bg:ByteArray) (bP:ByteArray) (cE:Bool) (bD:Int) (bI:Int) (bU:Int):Option (Bool):=(kC.f k bg bP cE bD bI bU).bind fun t208=>(some (!t208))
theorem ig.mono:∀ a0 a1 a2 a3 a4 a5 k,eZ (ig.f k a0 a1 a2 a3 a4 a5) (ig.f (k + 1) a0 a1 a2 a3 a4 a5):=by
 intro a0 a1 a2 a3 a4 a5 k
 unfold ig.f
 repeat' (with_reducible first|exact kC.mono _ _ _ _ _ _ _|exact eZ.refl _|refine eZ.bind ?_ (fun _ =>?_))
theorem ig.calls (k:Nat) (bg:ByteArray) (bP:ByteArray) (cE:Bool) (bD:Int) (bI:Int) (bU:Int) (r:Bool) (w:World) (hG:bq w) (h:ig.f k bg bP cE bD bI bU=some r):
 Calls Tryz.prog 117 #[.agg #[.string bg,.string bP,.bool cE,.int .u8 bD,.int .i64 bI,.int .i64 bU]] w fun e w'=>e= .returned (.bool r)∧Below w.heap.size w w':=by
 have ME:=Tryz.underlying37
 have HB:=ah.mk (Below.refl w.heap.size w)
 have HG:=ah.mk hG
 clear hG
 have H:((kC.f k bg bP cE bD bI bU).bind fun t208=>(some (!t208)))=some r:=h
 clear h
 obtain ⟨t208,A2,H⟩:=bd_ H
 obtain rfl:=Option.some.inj H
 go_enter Tryz.func117,Tryz.ntmps117
 go_wp2_with (first|((with_reducible refine bp (N:=1) rfl ?_);refine br ?hg (N:=1) ?hd (cs:=#[.string bg,.string bP,.bool cE,.int .u8 bD,.int .i64 bI,.int .i64 bU]) (t:=37) ?hr ?_;(case hd=>rfl);(case hg=>rfl);(case hr=>(go_simp;done));intro BH hg w3 bG hb;have rJ:=ah.mk (bG);have aAt:=ah.mk ((bF:w.heap.size≤BH));have aAu:=ah.mk ((bF:w.heap.size≤BH));replace HB:=ah.mk (ay aJ hb);clear hb bG hg;have Uo:w3.cell? ⟨BH,0,none⟩=some (.string bg):=(af rJ.out 0).trans rfl;have Uq:w3.cell? ⟨BH,1,none⟩=some (.string bP):=(af rJ.out 1).trans rfl;have ac3:w3.cell? ⟨BH,2,none⟩=some (.bool cE):=(af rJ.out 2).trans rfl;have ac4:w3.cell? ⟨BH,3,none⟩=some (.int .u8 bD):=(af rJ.out 3).trans rfl;have ac5:w3.cell? ⟨BH,4,none⟩=some (.int .i64 bI):=(af rJ.out 4).trans rfl;have ac6:w3.cell? ⟨BH,5,none⟩=some (.int .i64 bU):=(af rJ.out 5).trans rfl;have Ur:=aa rJ.out 0;have Us:=aa rJ.out 1;have ac7:=aa rJ.out 2;have ac8:=aa rJ.out 3;have ac9:=aa rJ.out 4;have ada:=aa rJ.out 5)|((with_reducible refine bK (f:=118) rfl ?_);refine dB (some 4) rfl rfl Tryz.func118 aq rfl #[.agg #[.string bg,.string bP,.bool cE,.int .u8 bD,.int .i64 bI,.int .i64 bU]] rfl dK ?_;(with_reducible refine (kC.calls k bg bP cE bD bI bU t208 _ ?bn A2.out).mono ?_);(case bn=>exact bq.below HG.out aJ);rintro e w5 ⟨rfl,hb⟩;refine ⟨_,rfl,?_⟩;replace rJ:=ah.mk (aA (by exact rJ.out) hb);replace HB:=ah.mk (ay aJ hb);(try clear hb)))
 go_ret
 exact ⟨by rfl,aJ⟩
end Go.Proofs.YtbjjaaodfbjkfaaGreatDoor.mU
