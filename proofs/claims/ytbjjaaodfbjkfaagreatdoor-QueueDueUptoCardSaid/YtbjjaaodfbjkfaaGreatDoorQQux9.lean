import Derived.Test.YtbjjaaodfbjkfaaGreatDoorQQux8
import Derived.Test.YtbjjaaodfbjkfaaGreatDoorWRepsOne
set_option maxHeartbeats 8000000
set_option maxRecDepth 100000
namespace Go.Proofs.YtbjjaaodfbjkfaaGreatDoor.ow
open Go.RowKit Go.Proofs.YtbjjaaodfbjkfaaGreatDoor.zi Go.Proofs.ak.bY Go.Proofs.ak.dU Go.Proofs.ak.dJ
attribute [local go_sem] jt ju kH kI iw iy jv jw
set_option linter.unusedVariables false
set_option linter.unusedSimpArgs false
attribute [local go_sem high] Q6
def iA.f (k:Nat) (a0:ByteArray):Option (Bool):=(jP.f k a0).bind fun t190=>(some (!t190))
theorem iA.mono:∀ a0 k,fP (iA.f k a0) (iA.f (k + 1) a0):=by
 intro a0 k
 unfold iA.f
 repeat' (with_reducible first|exact jP.mono _ _|exact fP.refl _|refine fP.bind ?_ (fun _ =>?_))
theorem iA.calls (k:Nat) (a0:ByteArray) (r:Bool) (w:World) (hG:bB w) (h:iA.f k a0=some r):
 Calls Tryz.prog 144 #[.string a0] w fun e w'=>e= .returned (.bool r)∧Below w.heap.size w w':=by
 have HB:=ah.mk (Below.refl w.heap.size w)
 have HG:=ah.mk hG
 clear hG
 have H:((jP.f k a0).bind fun t190=>(some (!t190)))=some r:=h
 clear h
 obtain ⟨t190,A2,H⟩:=bd_ H
 obtain rfl:=Option.some.inj H
 go_enter Tryz.func144,Tryz.ntmps144
 go_wp2_with (((with_reducible refine bE (f:=145) rfl ?_);refine dg (some 4) rfl rfl Tryz.func145 au rfl #[.string a0] rfl dM ?_;(with_reducible refine (jP.calls k a0 t190 _ ?bk A2.out).mono ?_);(case bk=>exact bB.below HG.out aI);rintro e w3 ⟨rfl,hb⟩;refine ⟨_,rfl,?_⟩;replace HB:=ah.mk (av aI hb);(try clear hb)))
 go_ret
 exact ⟨by rfl,aI⟩
def aN.l0:Nat→List ByteArray→Int→Int→Option (Int)
 | 0,_,_,_ =>none
 |k + 1,x0,x7,x8=>if x8 < x7 then (if 0≤x8 then (if x8 < (x0.length:Int) then ((iA.f k (oQ ByteArray.empty x0 x8)).bind fun t192=>(if t192=true then (some x8) else (aN.l0 k x0 x7 (wrap64 (x8 + 1))))) else (none)) else (none)) else (some (-1))
def aN.f (k:Nat) (l0:List ByteArray):Option (Int):=aN.l0 k l0 (l0.length:Int) 0
theorem aN.eY:∀ k,(∀ y0 y1 y2,fP (aN.l0 k y0 y1 y2) (aN.l0 (k + 1) y0 y1 y2))
 | 0=>fun _ _ _ r h=>by simp [aN.l0] at h
 |k + 1=>by
  have nY:=aN.eY k
  ·intro y0 y1 y2
   unfold aN.l0
   repeat' (with_reducible first|exact nY _ _ _|exact iA.mono _ _|exact fP.refl _|refine fP.ite ?_ ?_|refine fP.bind ?_ (fun _ =>?_))
theorem aN.mono:∀ a0 k,fP (aN.f k a0) (aN.f (k + 1) a0):=by
 intro a0 k
 have nY:=aN.eY k
 unfold aN.f
 repeat' (with_reducible exact nY _ _ _)
theorem aN.calls (k:Nat) (A0:Option Addr) (c0:Nat) (l0:List ByteArray) (r:Int) (w:World) (nZ:Kd.C Kd.string w A0 l0.length l0) (hc0:l0.length≤c0) (hG:bB w) (h:aN.f k l0=some r):
 Calls Tryz.prog 184 #[.slice A0 l0.length c0,.func (.func 144) #[] #[]] w fun e w'=>e= .returned (.int .i64 r)∧Below w.heap.size w w':=by
 have qN:=ah.mk nZ
 have Eg:=ah.mk hc0
 clear nZ hc0
 have HB:=ah.mk (Below.refl w.heap.size w)
 have HG:=ah.mk hG
 clear hG
 have H:(aN.l0 k l0 (l0.length:Int) 0)=some r:=h
 clear h
 have H':=ah.mk H
 clear H
 go_enter Tryz.func184,Tryz.ntmps184
 go_wp2
 go_loopg [8] k (fun kq v8 w'=>∃ (gJ:Int),v8= .int .i64 gJ∧ah (aN.l0 kq l0 (l0.length:Int) gJ=some r)∧ah (kq≤k)∧ah (Below w.heap.size w w'))
 case atStart=>exact ⟨(0),(by rfl),H',⟨Nat.le_refl _⟩,⟨aI⟩⟩
 case round=>
  clear H'
  obtain ⟨gJ,rfl,HA,oI,HB⟩:=hrel
  cases gk with
  |zero=>exact absurd HA.out (by simp [aN.l0])
  |succ k1=>
   have H:=HA.out
   clear HA
   simp only [aN.l0] at H
   by_cases c3:gJ < (l0.length:Int)
   ·rw [if_pos c3] at H
    have nT:=decide_eq_true c3
    clear c3
    obtain ⟨c4,H⟩:=lg H
    have ng:=decide_eq_true c4
    clear c4
    obtain ⟨c5,H⟩:=lg H
    have qu:=decide_eq_true c5
    clear c5
    obtain ⟨t192,A6,H⟩:=bd_ H
    by_cases c7:t192=true
    ·subst c7
     rw [if_pos rfl] at H
     obtain rfl:=Option.some.inj H
     have Oe: 0≤(gJ:Int):=of_decide_eq_true cL
     have Og:gJ < (l0.length:Int):=of_decide_eq_true cL
     obtain ⟨ajy,agq,vK⟩:=Kd.kN qN.out gJ Oe Og
     cases agq
     replace vK:=(HB.out.cell (World.block_lt_of_cell? w _ vK)).trans vK
     replace Oe:=eq_true Oe
     replace Og:=eq_true Og
     go_wp2_with ((go_at_call 144;(with_reducible refine (iA.calls k1 (oQ ByteArray.empty l0 gJ) true _ ?bk A6.out).mono ?_);(case bk=>exact bB.below HG.out aI);rintro e w8 ⟨rfl,hb⟩;replace HB:=ah.mk (av aI hb);(try clear hb)))
     go_ret
     exact ⟨by rfl,aI⟩
    ·replace c7:=Bool.eq_false_iff.mpr c7
     subst c7
     rw [if_neg (show ¬ (false=true) by decide)] at H
     have H':=ah.mk H
     clear H
     have Oe: 0≤(gJ:Int):=of_decide_eq_true cL
     have Og:gJ < (l0.length:Int):=of_decide_eq_true cL
     obtain ⟨ajy,agq,vK⟩:=Kd.kN qN.out gJ Oe Og
     cases agq
     replace vK:=(HB.out.cell (World.block_lt_of_cell? w _ vK)).trans vK
     replace Oe:=eq_true Oe
     replace Og:=eq_true Og
     go_wp2_with ((go_at_call 144;(with_reducible refine (iA.calls k1 (oQ ByteArray.empty l0 gJ) false _ ?bk A6.out).mono ?_);(case bk=>exact bB.below HG.out aI);rintro e w9 ⟨rfl,hb⟩;replace HB:=ah.mk (av aI hb);(try clear hb)))
     go_roundg k1
     case measure=>have:=oI.out;omega
     case rel=>exact ⟨(wrap64 (gJ + 1)),(by rfl),H',⟨lS⟩,⟨aI⟩⟩
   ·rw [if_neg c3] at H
    have nT:=decide_eq_false c3
    clear c3
    obtain rfl:=Option.some.inj H
    go_wp2
    go_ret
    exact ⟨by rfl,aI⟩
def bN.f (k:Nat) (l0:List ByteArray):Option (Bool):=(aN.f k l0).bind fun t193=>(some (decide (t193≥0)))
theorem bN.mono:∀ a0 k,fP (bN.f k a0) (bN.f (k + 1) a0):=by
 intro a0 k
 unfold bN.f
 repeat' (with_reducible first|exact aN.mono _ _|exact fP.refl _|refine fP.bind ?_ (fun _ =>?_))
theorem bN.calls (k:Nat) (A0:Option Addr) (c0:Nat) (l0:List ByteArray) (r:Bool) (w:World) (nZ:Kd.C Kd.string w A0 l0.length l0) (hc0:l0.length≤c0) (hG:bB w) (h:bN.f k l0=some r):
 Calls Tryz.prog 140 #[.slice A0 l0.length c0,.func (.func 144) #[] #[]] w fun e w'=>e= .returned (.bool r)∧Below w.heap.size w w':=by
 have qN:=ah.mk nZ
 have Eg:=ah.mk hc0
 clear nZ hc0
 have HB:=ah.mk (Below.refl w.heap.size w)
 have HG:=ah.mk hG
 clear hG
 have H:((aN.f k l0).bind fun t193=>(some (decide (t193≥0))))=some r:=h
 clear h
 obtain ⟨t193,A3,H⟩:=bd_ H
 obtain rfl:=Option.some.inj H
 go_enter Tryz.func140,Tryz.ntmps140
 go_wp2_with (((with_reducible refine bE (f:=184) rfl ?_);refine dg (some 7) rfl rfl Tryz.func184 au rfl #[.slice A0 l0.length c0,.func (.func 144) #[] #[]] rfl dM ?_;(with_reducible refine (aN.calls k _ _ l0 t193 _ ?bk ?bI ?cO A3.out).mono ?_);(case bk=>repeat (exact qN.out));(case bI=>exact Eg.out);(case cO=>exact bB.below HG.out aI);rintro e w4 ⟨rfl,hb⟩;refine ⟨_,rfl,?_⟩;replace HB:=ah.mk (av aI hb);(try clear hb)))
 go_ret
 exact ⟨by rfl,aI⟩
def ez.f (k:Nat) (bu:Bool) (aT:List ByteArray) (cK:ByteArray) (bL:ByteArray) (bQ:Bool):Option (Bool):=if bu=true then (if (aT.length:Int)=0 then (some (cK.toList == ([]:List UInt8) && (bL.toList == ([]:List UInt8) && (!bQ)))) else (some false)) else (if (cK.toList == ([112,111,115,116,109,97,115,116,101,114]:List UInt8) && (bL.toList == ([]:List UInt8) && (!bQ)))=true then (some ((aT.length:Int) == 0)) else ((cU.f k cK bL bQ).bind fun t195=>(if t195=true then (if (aT.length:Int)≤20 then ((bN.f k aT).bind fun t196=>(some (!t196))) else (some false)) else (some false))))
theorem ez.mono:∀ a0 a1 a2 a3 a4 k,fP (ez.f k a0 a1 a2 a3 a4) (ez.f (k + 1) a0 a1 a2 a3 a4):=by
 intro a0 a1 a2 a3 a4 k
 unfold ez.f
 repeat' (with_reducible first|exact cU.mono _ _ _ _|exact bN.mono _ _|exact fP.refl _|refine fP.ite ?_ ?_|refine fP.bind ?_ (fun _ =>?_))
theorem ez.calls (k:Nat) (bu:Bool) (kj:Option Addr) (jA:Nat) (aT:List ByteArray) (cK:ByteArray) (bL:ByteArray) (bQ:Bool) (r:Bool) (w:World) (qU:Kd.C Kd.string w kj aT.length aT) (qV:aT.length≤jA) (hG:bB w) (h:ez.f k bu aT cK bL bQ=some r):
 Calls Tryz.prog 95 #[.agg #[.bool bu,.slice kj aT.length jA,.string cK,.string bL,.bool bQ]] w fun e w'=>e= .returned (.bool r)∧Below w.heap.size w w':=by
 have Zn:=Tryz.underlying31
 have LW:=Tryz.underlying29
 have yJ:=ah.mk qU
 have GL:=ah.mk qV
 clear qU qV
 have HB:=ah.mk (Below.refl w.heap.size w)
 have HG:=ah.mk hG
 clear hG
 have H:(if bu=true then (if (aT.length:Int)=0 then (some (cK.toList == ([]:List UInt8) && (bL.toList == ([]:List UInt8) && (!bQ)))) else (some false)) else (if (cK.toList == ([112,111,115,116,109,97,115,116,101,114]:List UInt8) && (bL.toList == ([]:List UInt8) && (!bQ)))=true then (some ((aT.length:Int) == 0)) else ((cU.f k cK bL bQ).bind fun t195=>(if t195=true then (if (aT.length:Int)≤20 then ((bN.f k aT).bind fun t196=>(some (!t196))) else (some false)) else (some false)))))=some r:=h
 clear h
 by_cases c2:bu=true
 ·subst c2
  rw [if_pos rfl] at H
  by_cases c3:(aT.length:Int)=0
  ·rw [if_pos c3] at H
   have nT:=beq_iff_eq.mpr c3
   have tZ:=bne_eq_false_iff_eq.mpr c3
   clear c3
   obtain rfl:=Option.some.inj H
   go_enter Tryz.func95,Tryz.ntmps95
   go_wp2_with (((with_reducible refine bw (N:=1) rfl ?_);(try (refine bO (by rfl) ?_;dsimp only));refine bA ?hg (N:=1) ?hd (cs:=#[.bool true,.slice kj aT.length jA,.string cK,.string bL,.bool bQ]) (t:=31) ?hr ?_;(case hd=>rfl);(case hg=>rfl);(case hr=>(go_simp;done));intro gD hg w4 bH hb;have dS:=ah.mk (bH);have Mo:=ah.mk ((bG:w.heap.size≤gD));have Mp:=ah.mk ((bG:w.heap.size≤gD));replace HB:=ah.mk (av aI hb);clear hb bH hg;have Xl:w4.cell? ⟨gD,0,none⟩=some (.bool true):=(af dS.out 0).trans rfl;have Xm:w4.cell? ⟨gD,1,none⟩=some (.slice kj aT.length jA):=(af dS.out 1).trans rfl;have agl:w4.cell? ⟨gD,2,none⟩=some (.string cK):=(af dS.out 2).trans rfl;have aCY:w4.cell? ⟨gD,3,none⟩=some (.string bL):=(af dS.out 3).trans rfl;have aCZ:w4.cell? ⟨gD,4,none⟩=some (.bool bQ):=(af dS.out 4).trans rfl;have Xn:=aa dS.out 0;have Xo:=aa dS.out 1;have agm:=aa dS.out 2;have aC0:=aa dS.out 3;have aC1:=aa dS.out 4))
   go_ret
   exact ⟨by rfl,aI⟩
  ·rw [if_neg c3] at H
   have nT:=beq_eq_false_iff_ne.mpr c3
   have tZ:=bne_iff_ne.mpr c3
   have Fa: ¬ (aT= []):=fun h_ =>c3 (by rw [h_];rfl)
   obtain rfl:=Option.some.inj H
   go_enter Tryz.func95,Tryz.ntmps95
   go_wp2_with (((with_reducible refine bw (N:=1) rfl ?_);(try (refine bO (by rfl) ?_;dsimp only));refine bA ?hg (N:=1) ?hd (cs:=#[.bool true,.slice kj aT.length jA,.string cK,.string bL,.bool bQ]) (t:=31) ?hr ?_;(case hd=>rfl);(case hg=>rfl);(case hr=>(go_simp;done));intro gD hg w6 bH hb;have dS:=ah.mk (bH);have Mo:=ah.mk ((bG:w.heap.size≤gD));have Mp:=ah.mk ((bG:w.heap.size≤gD));replace HB:=ah.mk (av aI hb);clear hb bH hg;have JF:w6.cell? ⟨gD,0,none⟩=some (.bool true):=(af dS.out 0).trans rfl;have JG:w6.cell? ⟨gD,1,none⟩=some (.slice kj aT.length jA):=(af dS.out 1).trans rfl;have Xu:w6.cell? ⟨gD,2,none⟩=some (.string cK):=(af dS.out 2).trans rfl;have Xv:w6.cell? ⟨gD,3,none⟩=some (.string bL):=(af dS.out 3).trans rfl;have Xw:w6.cell? ⟨gD,4,none⟩=some (.bool bQ):=(af dS.out 4).trans rfl;have JH:=aa dS.out 0;have JI:=aa dS.out 1;have Xx:=aa dS.out 2;have Xy:=aa dS.out 3;have Xz:=aa dS.out 4))
   go_ret
   exact ⟨by rfl,aI⟩
 ·replace c2:=Bool.eq_false_iff.mpr c2
  subst c2
  rw [if_neg (show ¬ (false=true) by decide)] at H
  by_cases c8:(cK.toList == ([112,111,115,116,109,97,115,116,101,114]:List UInt8) && (bL.toList == ([]:List UInt8) && (!bQ)))=true
  ·rw [if_pos c8] at H
   have yB:(cK.toList == ([112,111,115,116,109,97,115,116,101,114]:List UInt8) && (bL.toList == ([]:List UInt8) && (!bQ)))=true:=c8
   have c8e:(cK.toList == ([112,111,115,116,109,97,115,116,101,114]:List UInt8))=true∧bL.toList.isEmpty=true∧(!bQ)=true:=by {have c_ :=c8;simp only [Bool.and_eq_true] at c_;obtain ⟨h1_,h2_,h3_⟩:=c_;exact ⟨h1_,by rw [beq_iff_eq] at h2_;rw [h2_];rfl,h3_⟩}
   obtain ⟨c8f,c8g,c8h⟩:=c8e
   (try (have Jy:decide (cK.toList=([112,111,115,116,109,97,115,116,101,114]:List UInt8) && (bL.toList == ([]:List UInt8) && (!bQ)))=true:=by simpa using c8))
   (try (have agd:(cK.toList == ([112,111,115,116,109,97,115,116,101,114]:List UInt8) && (bL.toList == ([]:List UInt8) && (!bQ)))=true:=by simpa using c8))
   clear c8
   obtain rfl:=Option.some.inj H
   go_enter Tryz.func95,Tryz.ntmps95
   go_wp2_with (((with_reducible refine bw (N:=1) rfl ?_);(try (refine bO (by rfl) ?_;dsimp only));refine bA ?hg (N:=1) ?hd (cs:=#[.bool false,.slice kj aT.length jA,.string cK,.string bL,.bool bQ]) (t:=31) ?hr ?_;(case hd=>rfl);(case hg=>rfl);(case hr=>(go_simp;done));intro gD hg w9 bH hb;have dS:=ah.mk (bH);have Mo:=ah.mk ((bG:w.heap.size≤gD));have Mp:=ah.mk ((bG:w.heap.size≤gD));replace HB:=ah.mk (av aI hb);clear hb bH hg;have Ea:w9.cell? ⟨gD,0,none⟩=some (.bool false):=(af dS.out 0).trans rfl;have Eb:w9.cell? ⟨gD,1,none⟩=some (.slice kj aT.length jA):=(af dS.out 1).trans rfl;have Q7:w9.cell? ⟨gD,2,none⟩=some (.string cK):=(af dS.out 2).trans rfl;have Q8:w9.cell? ⟨gD,3,none⟩=some (.string bL):=(af dS.out 3).trans rfl;have Q9:w9.cell? ⟨gD,4,none⟩=some (.bool bQ):=(af dS.out 4).trans rfl;have Ec:=aa dS.out 0;have Ed:=aa dS.out 1;have Ra:=aa dS.out 2;have Rb:=aa dS.out 3;have Re:=aa dS.out 4))
   go_ret
   exact ⟨by rfl,aI⟩
  ·rw [if_neg c8] at H
   have c8e:((cK.toList == ([112,111,115,116,109,97,115,116,101,114]:List UInt8))=true∧bL.toList.isEmpty=true∧(!bQ)=true)=False:=eq_false (fun ⟨h1_,h2_,h3_⟩=>c8 (by rw [h1_,show (bL.toList == ([]:List UInt8))=true from by rw [beq_iff_eq];exact List.isEmpty_iff.mp h2_,h3_];rfl))
   have yB:(cK.toList == ([112,111,115,116,109,97,115,116,101,114]:List UInt8) && (bL.toList == ([]:List UInt8) && (!bQ)))=false:=by simpa using c8
   (try (have Jy:decide (cK.toList=([112,111,115,116,109,97,115,116,101,114]:List UInt8) && (bL.toList == ([]:List UInt8) && (!bQ)))=false:=by simpa using c8))
   (try (have agd:(cK.toList == ([112,111,115,116,109,97,115,116,101,114]:List UInt8) && (bL.toList == ([]:List UInt8) && (!bQ)))=false:=by simpa using c8))
   (try (have aCM: ¬ (cK.toList=([112,111,115,116,109,97,115,116,101,114]:List UInt8) && (bL.toList == ([]:List UInt8) && (!bQ))):=by simpa using c8))
   clear c8
   obtain ⟨t195,LS,H⟩:=bd_ H
   by_cases c12:t195=true
   ·subst c12
    rw [if_pos rfl] at H
    by_cases c13:(aT.length:Int)≤20
    ·rw [if_pos c13] at H
     have E8:=decide_eq_true c13
     have Mn:decide (aT.length≤20)=true:=decide_eq_true aA
     clear c13
     obtain ⟨t196,A14,H⟩:=bd_ H
     obtain rfl:=Option.some.inj H
     go_enter Tryz.func95,Tryz.ntmps95
     go_wp2_with (first|((with_reducible refine bw (N:=1) rfl ?_);(try (refine bO (by rfl) ?_;dsimp only));refine bA ?hg (N:=1) ?hd (cs:=#[.bool false,.slice kj aT.length jA,.string cK,.string bL,.bool bQ]) (t:=31) ?hr ?_;(case hd=>rfl);(case hg=>rfl);(case hr=>(go_simp;done));intro gD hg wO bH hb;have dS:=ah.mk (bH);have Mo:=ah.mk ((bG:w.heap.size≤gD));have Mp:=ah.mk ((bG:w.heap.size≤gD));replace HB:=ah.mk (av aI hb);clear hb bH hg;have Ak:wO.cell? ⟨gD,0,none⟩=some (.bool false):=(af dS.out 0).trans rfl;have Al:wO.cell? ⟨gD,1,none⟩=some (.slice kj aT.length jA):=(af dS.out 1).trans rfl;have Am:wO.cell? ⟨gD,2,none⟩=some (.string cK):=(af dS.out 2).trans rfl;have Ao:wO.cell? ⟨gD,3,none⟩=some (.string bL):=(af dS.out 3).trans rfl;have Ap:wO.cell? ⟨gD,4,none⟩=some (.bool bQ):=(af dS.out 4).trans rfl;have Aq:=aa dS.out 0;have Ar:=aa dS.out 1;have Au:=aa dS.out 2;have Aw:=aa dS.out 3;have Ax:=aa dS.out 4)|((with_reducible refine bE (f:=143) rfl ?_);refine dg (some 25) rfl rfl Tryz.func143 au rfl #[.agg #[.string cK,.string bL,.bool bQ]] rfl dM ?_;(with_reducible refine (cU.calls k cK bL bQ true _ ?bk LS.out).mono ?_);(case bk=>exact bB.below HG.out aI);rintro e ud ⟨rfl,hb⟩;refine ⟨_,rfl,?_⟩;replace dS:=ah.mk (az (by exact dS.out) hb);replace HB:=ah.mk (av aI hb);(try clear hb);have DI:ud.cell? ⟨gD,0,none⟩=some (.bool false):=(af dS.out 0).trans rfl;have DJ:ud.cell? ⟨gD,1,none⟩=some (.slice kj aT.length jA):=(af dS.out 1).trans rfl;have DK:ud.cell? ⟨gD,2,none⟩=some (.string cK):=(af dS.out 2).trans rfl;have DL:ud.cell? ⟨gD,3,none⟩=some (.string bL):=(af dS.out 3).trans rfl;have DM:ud.cell? ⟨gD,4,none⟩=some (.bool bQ):=(af dS.out 4).trans rfl;have DN:=aa dS.out 0;have DR:=aa dS.out 1;have DT:=aa dS.out 2;have DU:=aa dS.out 3;have DV:=aa dS.out 4)|(go_at_call 140;(with_reducible refine (bN.calls k _ _ aT t196 _ ?bk ?bI ?cO A14.out).mono ?_);(case bk=>repeat (exact (Kd.bU yJ.out HB.out)));(case bI=>exact GL.out);(case cO=>exact bB.below HG.out aI);rintro e w19 ⟨rfl,hb⟩;replace dS:=ah.mk (az (by exact dS.out) hb);replace HB:=ah.mk (av aI hb);(try clear hb)))
     try any_goals (exact (c8e.mp nV).elim)
     go_ret
     exact ⟨by rfl,aI⟩
    ·rw [if_neg c13] at H
     have E8:=decide_eq_false c13
     have Mn:decide (aT.length≤20)=false:=decide_eq_false aA
     clear c13
     obtain rfl:=Option.some.inj H
     go_enter Tryz.func95,Tryz.ntmps95
     go_wp2_with (first|((with_reducible refine bw (N:=1) rfl ?_);(try (refine bO (by rfl) ?_;dsimp only));refine bA ?hg (N:=1) ?hd (cs:=#[.bool false,.slice kj aT.length jA,.string cK,.string bL,.bool bQ]) (t:=31) ?hr ?_;(case hd=>rfl);(case hg=>rfl);(case hr=>(go_simp;done));intro gD hg CN bH hb;have dS:=ah.mk (bH);have Mo:=ah.mk ((bG:w.heap.size≤gD));have Mp:=ah.mk ((bG:w.heap.size≤gD));replace HB:=ah.mk (av aI hb);clear hb bH hg;have Rl:CN.cell? ⟨gD,0,none⟩=some (.bool false):=(af dS.out 0).trans rfl;have Rm:CN.cell? ⟨gD,1,none⟩=some (.slice kj aT.length jA):=(af dS.out 1).trans rfl;have aay:CN.cell? ⟨gD,2,none⟩=some (.string cK):=(af dS.out 2).trans rfl;have aaz:CN.cell? ⟨gD,3,none⟩=some (.string bL):=(af dS.out 3).trans rfl;have aaA:CN.cell? ⟨gD,4,none⟩=some (.bool bQ):=(af dS.out 4).trans rfl;have Rn:=aa dS.out 0;have Ro:=aa dS.out 1;have aaB:=aa dS.out 2;have aaC:=aa dS.out 3;have aaD:=aa dS.out 4)|((with_reducible refine bE (f:=143) rfl ?_);refine dg (some 25) rfl rfl Tryz.func143 au rfl #[.agg #[.string cK,.string bL,.bool bQ]] rfl dM ?_;(with_reducible refine (cU.calls k cK bL bQ true _ ?bk LS.out).mono ?_);(case bk=>exact bB.below HG.out aI);rintro e Y1 ⟨rfl,hb⟩;refine ⟨_,rfl,?_⟩;replace dS:=ah.mk (az (by exact dS.out) hb);replace HB:=ah.mk (av aI hb);(try clear hb);have aaE:Y1.cell? ⟨gD,0,none⟩=some (.bool false):=(af dS.out 0).trans rfl;have aaF:Y1.cell? ⟨gD,1,none⟩=some (.slice kj aT.length jA):=(af dS.out 1).trans rfl;have aaG:Y1.cell? ⟨gD,2,none⟩=some (.string cK):=(af dS.out 2).trans rfl;have aaH:Y1.cell? ⟨gD,3,none⟩=some (.string bL):=(af dS.out 3).trans rfl;have aaI:Y1.cell? ⟨gD,4,none⟩=some (.bool bQ):=(af dS.out 4).trans rfl;have aaJ:=aa dS.out 0;have aaK:=aa dS.out 1;have aaL:=aa dS.out 2;have aaM:=aa dS.out 3;have aaN:=aa dS.out 4))
     try any_goals (exact (c8e.mp nV).elim)
     go_ret
     exact ⟨by rfl,aI⟩
   ·replace c12:=Bool.eq_false_iff.mpr c12
    subst c12
    rw [if_neg (show ¬ (false=true) by decide)] at H
    obtain rfl:=Option.some.inj H
    go_enter Tryz.func95,Tryz.ntmps95
    go_wp2_with (first|((with_reducible refine bw (N:=1) rfl ?_);(try (refine bO (by rfl) ?_;dsimp only));refine bA ?hg (N:=1) ?hd (cs:=#[.bool false,.slice kj aT.length jA,.string cK,.string bL,.bool bQ]) (t:=31) ?hr ?_;(case hd=>rfl);(case hg=>rfl);(case hr=>(go_simp;done));intro gD hg zk bH hb;have dS:=ah.mk (bH);have Mo:=ah.mk ((bG:w.heap.size≤gD));have Mp:=ah.mk ((bG:w.heap.size≤gD));replace HB:=ah.mk (av aI hb);clear hb bH hg;have D4:zk.cell? ⟨gD,0,none⟩=some (.bool false):=(af dS.out 0).trans rfl;have D5:zk.cell? ⟨gD,1,none⟩=some (.slice kj aT.length jA):=(af dS.out 1).trans rfl;have D6:zk.cell? ⟨gD,2,none⟩=some (.string cK):=(af dS.out 2).trans rfl;have Jm:zk.cell? ⟨gD,3,none⟩=some (.string bL):=(af dS.out 3).trans rfl;have Jn:zk.cell? ⟨gD,4,none⟩=some (.bool bQ):=(af dS.out 4).trans rfl;have D7:=aa dS.out 0;have D8:=aa dS.out 1;have D9:=aa dS.out 2;have Jo:=aa dS.out 3;have Jp:=aa dS.out 4)|((with_reducible refine bE (f:=143) rfl ?_);refine dg (some 25) rfl rfl Tryz.func143 au rfl #[.agg #[.string cK,.string bL,.bool bQ]] rfl dM ?_;(with_reducible refine (cU.calls k cK bL bQ false _ ?bk LS.out).mono ?_);(case bk=>exact bB.below HG.out aI);rintro e Nq ⟨rfl,hb⟩;refine ⟨_,rfl,?_⟩;replace dS:=ah.mk (az (by exact dS.out) hb);replace HB:=ah.mk (av aI hb);(try clear hb)))
    try any_goals (exact (c8e.mp nV).elim)
    go_ret
    exact ⟨by rfl,aI⟩
def nk.f (a0:Int):Option (Bool):=if a0 < 0 then (some true) else (some (decide (a0 > 1099511627776)))
theorem nk.calls (a0:Int) (r:Bool) (w:World) (h:nk.f a0=some r):
 Calls Tryz.prog 163 #[.int .i64 a0] w fun e w'=>e= .returned (.bool r)∧ia w w':=by
 have H:(if a0 < 0 then (some true) else (some (decide (a0 > 1099511627776))))=some r:=h
 clear h
 by_cases c2:a0 < 0
 ·rw [if_pos c2] at H
  have BD:=decide_eq_true c2
  clear c2
  obtain rfl:=Option.some.inj H
  go_enter Tryz.func163,Tryz.ntmps163
  go_wp2
  go_ret
  exact ⟨by rfl,mj⟩
 ·rw [if_neg c2] at H
  have BD:=decide_eq_false c2
  clear c2
  obtain rfl:=Option.some.inj H
  go_enter Tryz.func163,Tryz.ntmps163
  go_wp2
  go_ret
  exact ⟨by rfl,mj⟩
def aV.l0:Nat→List Int→Int→Int→Option (Int)
 | 0,_,_,_ =>none
 |k + 1,x0,x7,x8=>if x8 < x7 then (if 0≤x8 then (if x8 < (x0.length:Int) then ((nk.f (rd x0 x8)).bind fun t198=>(if t198=true then (some x8) else (aV.l0 k x0 x7 (wrap64 (x8 + 1))))) else (none)) else (none)) else (some (-1))
def aV.f (k:Nat) (l0:List Int):Option (Int):=aV.l0 k l0 (l0.length:Int) 0
theorem aV.eY:∀ k,(∀ y0 y1 y2,fP (aV.l0 k y0 y1 y2) (aV.l0 (k + 1) y0 y1 y2))
 | 0=>fun _ _ _ r h=>by simp [aV.l0] at h
 |k + 1=>by
  have nY:=aV.eY k
  ·intro y0 y1 y2
   unfold aV.l0
   repeat' (with_reducible first|exact nY _ _ _|exact fP.refl _|refine fP.ite ?_ ?_|refine fP.bind ?_ (fun _ =>?_))
theorem aV.mono:∀ a0 k,fP (aV.f k a0) (aV.f (k + 1) a0):=by
 intro a0 k
 have nY:=aV.eY k
 unfold aV.f
 repeat' (with_reducible exact nY _ _ _)
theorem aV.calls (k:Nat) (A0:Option Addr) (c0:Nat) (l0:List Int) (r:Int) (w:World) (nZ:Kd.C (Kd.int .i64) w A0 l0.length l0) (hc0:l0.length≤c0) (h:aV.f k l0=some r):
 Calls Tryz.prog 129 #[.slice A0 l0.length c0,.func (.func 163) #[] #[]] w fun e w'=>e= .returned (.int .i64 r)∧ia w w':=by
 have qN:=ah.mk nZ
 have Eg:=ah.mk hc0
 clear nZ hc0
 have H:(aV.l0 k l0 (l0.length:Int) 0)=some r:=h
 clear h
 have H':=ah.mk H
 clear H
 go_enter Tryz.func129,Tryz.ntmps129
 go_wp2
 go_loopg [8] k (fun kq v8 w'=>∃ (gJ:Int),v8= .int .i64 gJ∧ah (aV.l0 kq l0 (l0.length:Int) gJ=some r)∧ah (kq≤k)∧ia w w')
 case atStart=>exact ⟨(0),(by rfl),H',⟨Nat.le_refl _⟩,mj⟩
 case round=>
  clear H'
  obtain ⟨gJ,rfl,HA,oI,⟨m1,rfl⟩⟩:=hrel
  cases gk with
  |zero=>exact absurd HA.out (by simp [aV.l0])
  |succ k1=>
   have H:=HA.out
   clear HA
   simp only [aV.l0] at H
   by_cases c3:gJ < (l0.length:Int)
   ·rw [if_pos c3] at H
    have nT:=decide_eq_true c3
    clear c3
    obtain ⟨c4,H⟩:=lg H
    have ng:=decide_eq_true c4
    clear c4
    obtain ⟨c5,H⟩:=lg H
    have qu:=decide_eq_true c5
    clear c5
    obtain ⟨t198,A6,H⟩:=bd_ H
    by_cases c7:t198=true
    ·subst c7
     rw [if_pos rfl] at H
     obtain rfl:=Option.some.inj H
     have Oh: 0≤(gJ:Int):=of_decide_eq_true cL
     have Oi:gJ < (l0.length:Int):=of_decide_eq_true cL
     obtain ⟨ajz,agr,aaO⟩:=Kd.qB qN.out gJ Oh Oi
     cases agr
     replace Oh:=eq_true Oh
     replace Oi:=eq_true Oi
     go_wp2_with ((go_at_call 163;(with_reducible refine (nk.calls (rd l0 gJ) true _ A6.out).mono ?_);rintro e w' ⟨rfl,⟨nd,rfl⟩⟩))
     go_ret
     exact ⟨by rfl,jl⟩
    ·replace c7:=Bool.eq_false_iff.mpr c7
     subst c7
     rw [if_neg (show ¬ (false=true) by decide)] at H
     have H':=ah.mk H
     clear H
     have Oh: 0≤(gJ:Int):=of_decide_eq_true cL
     have Oi:gJ < (l0.length:Int):=of_decide_eq_true cL
     obtain ⟨ajz,agr,aaO⟩:=Kd.qB qN.out gJ Oh Oi
     cases agr
     replace Oh:=eq_true Oh
     replace Oi:=eq_true Oi
     go_wp2_with ((go_at_call 163;(with_reducible refine (nk.calls (rd l0 gJ) false _ A6.out).mono ?_);rintro e w' ⟨rfl,⟨nd,rfl⟩⟩))
     go_roundg k1
     case measure=>have:=oI.out;omega
     case rel=>exact ⟨(wrap64 (gJ + 1)),(by rfl),H',⟨lS⟩,jl⟩
   ·rw [if_neg c3] at H
    have nT:=decide_eq_false c3
    clear c3
    obtain rfl:=Option.some.inj H
    go_wp2
    go_ret
    exact ⟨by rfl,jl⟩
def cr.f (k:Nat) (l0:List Int):Option (Bool):=(aV.f k l0).bind fun t199=>(some (decide (t199≥0)))
theorem cr.mono:∀ a0 k,fP (cr.f k a0) (cr.f (k + 1) a0):=by
 intro a0 k
 unfold cr.f
 repeat' (with_reducible first|exact aV.mono _ _|exact fP.refl _|refine fP.bind ?_ (fun _ =>?_))
theorem cr.calls (k:Nat) (A0:Option Addr) (c0:Nat) (l0:List Int) (r:Bool) (w:World) (nZ:Kd.C (Kd.int .i64) w A0 l0.length l0) (hc0:l0.length≤c0) (h:cr.f k l0=some r):
 Calls Tryz.prog 85 #[.slice A0 l0.length c0,.func (.func 163) #[] #[]] w fun e w'=>e= .returned (.bool r)∧ia w w':=by
 have qN:=ah.mk nZ
 have Eg:=ah.mk hc0
 clear nZ hc0
 have H:((aV.f k l0).bind fun t199=>(some (decide (t199≥0))))=some r:=h
 clear h
 obtain ⟨t199,A3,H⟩:=bd_ H
 obtain rfl:=Option.some.inj H
 go_enter Tryz.func85,Tryz.ntmps85
 go_wp2_with (((with_reducible refine bE (f:=129) rfl ?_);refine dg (some 7) rfl rfl Tryz.func129 au rfl #[.slice A0 l0.length c0,.func (.func 163) #[] #[]] rfl dM ?_;(with_reducible refine (aV.calls k _ _ l0 t199 _ ?bk ?bI A3.out).mono ?_);(case bk=>repeat (exact qN.out));(case bI=>exact Eg.out);rintro e w' ⟨rfl,⟨nd,rfl⟩⟩;refine ⟨_,rfl,?_⟩))
 go_ret
 exact ⟨by rfl,jl⟩
def dm.f (k:Nat) (l0:List Int):Option (Bool):=(cr.f k l0).bind fun t200=>(some (!t200))
theorem dm.mono:∀ a0 k,fP (dm.f k a0) (dm.f (k + 1) a0):=by
 intro a0 k
 unfold dm.f
 repeat' (with_reducible first|exact cr.mono _ _|exact fP.refl _|refine fP.bind ?_ (fun _ =>?_))
theorem dm.calls (k:Nat) (A0:Option Addr) (c0:Nat) (l0:List Int) (r:Bool) (w:World) (nZ:Kd.C (Kd.int .i64) w A0 l0.length l0) (hc0:l0.length≤c0) (h:dm.f k l0=some r):
 Calls Tryz.prog 102 #[.slice A0 l0.length c0] w fun e w'=>e= .returned (.bool r)∧ia w w':=by
 have qN:=ah.mk nZ
 have Eg:=ah.mk hc0
 clear nZ hc0
 have H:((cr.f k l0).bind fun t200=>(some (!t200)))=some r:=h
 clear h
 obtain ⟨t200,A2,H⟩:=bd_ H
 obtain rfl:=Option.some.inj H
 go_enter Tryz.func102,Tryz.ntmps102
 go_wp2_with (((with_reducible refine bE (f:=85) rfl ?_);refine dg (some 4) rfl rfl Tryz.func85 au rfl #[.slice A0 l0.length c0,.func (.func 163) #[] #[]] rfl dM ?_;(with_reducible refine (cr.calls k _ _ l0 t200 _ ?bk ?bI A2.out).mono ?_);(case bk=>repeat (exact qN.out));(case bI=>exact Eg.out);rintro e w' ⟨rfl,⟨nd,rfl⟩⟩;refine ⟨_,rfl,?_⟩))
 go_ret
 exact ⟨by rfl,jl⟩
def ld.f (k:Nat) (bu:ByteArray) (bX:ByteArray) (cK:Bool) (bL:Int) (bQ:Int) (b9:Int):Option (Bool):=(ez.f k false ([]:List ByteArray) bu bX cK).bind fun t202=>(if t202=true then (if bL≤2 then ((dm.f k (([bQ,b9]:List Int))).bind fun t206=>(some t206)) else (some false)) else (some false))
theorem ld.mono:∀ a0 a1 a2 a3 a4 a5 k,fP (ld.f k a0 a1 a2 a3 a4 a5) (ld.f (k + 1) a0 a1 a2 a3 a4 a5):=by
 intro a0 a1 a2 a3 a4 a5 k
 unfold ld.f
 repeat' (with_reducible first|exact ez.mono _ _ _ _ _ _|exact dm.mono _ _|exact fP.refl _|refine fP.ite ?_ ?_|refine fP.bind ?_ (fun _ =>?_))
theorem ld.calls (k:Nat) (bu:ByteArray) (bX:ByteArray) (cK:Bool) (bL:Int) (bQ:Int) (b9:Int) (r:Bool) (w:World) (hG:bB w) (h:ld.f k bu bX cK bL bQ b9=some r):
 Calls Tryz.prog 118 #[.agg #[.string bu,.string bX,.bool cK,.int .u8 bL,.int .i64 bQ,.int .i64 b9]] w fun e w'=>e= .returned (.bool r)∧Below w.heap.size w w':=by
 have LX:=Tryz.underlying37
 have LW:=Tryz.underlying29
 have Zn:=Tryz.underlying31
 have HB:=ah.mk (Below.refl w.heap.size w)
 have HG:=ah.mk hG
 clear hG
 have H:((ez.f k false ([]:List ByteArray) bu bX cK).bind fun t202=>(if t202=true then (if bL≤2 then ((dm.f k (([bQ,b9]:List Int))).bind fun t206=>(some t206)) else (some false)) else (some false)))=some r:=h
 clear h
 obtain ⟨t202,A2,H⟩:=bd_ H
 by_cases c3:t202=true
 ·subst c3
  rw [if_pos rfl] at H
  by_cases c4:bL≤2
  ·rw [if_pos c4] at H
   have ng:=decide_eq_true c4
   clear c4
   obtain ⟨ajA,XA⟩:∃ y_:List Int,y_=(([bQ,b9]:List Int)):=⟨_,rfl⟩
   replace H:((dm.f k ajA).bind fun t206=>(some t206))=some r:=by (rw [XA];with_reducible exact H)
   have ajB:=ah.mk XA
   clear XA
   obtain ⟨t206,A5,H⟩:=bd_ H
   obtain rfl:=Option.some.inj H
   go_enter Tryz.func118,Tryz.ntmps118
   go_wp2_with (first|((with_reducible refine bw (N:=1) rfl ?_);(try (refine bO (by rfl) ?_;dsimp only));refine bA ?hg (N:=1) ?hd (cs:=#[.string bu,.string bX,.bool cK,.int .u8 bL,.int .i64 bQ,.int .i64 b9]) (t:=37) ?hr ?_;(case hd=>rfl);(case hg=>rfl);(case hr=>(go_simp;done));intro jF hg w6 bH hb;have fO:=ah.mk (bH);have aeY:=ah.mk ((bG:w.heap.size≤jF));have aeZ:=ah.mk ((bG:w.heap.size≤jF));replace HB:=ah.mk (av aI hb);clear hb bH hg;have JF:w6.cell? ⟨jF,0,none⟩=some (.string bu):=(af fO.out 0).trans rfl;have JG:w6.cell? ⟨jF,1,none⟩=some (.string bX):=(af fO.out 1).trans rfl;have Xu:w6.cell? ⟨jF,2,none⟩=some (.bool cK):=(af fO.out 2).trans rfl;have Xv:w6.cell? ⟨jF,3,none⟩=some (.int .u8 bL):=(af fO.out 3).trans rfl;have Xw:w6.cell? ⟨jF,4,none⟩=some (.int .i64 bQ):=(af fO.out 4).trans rfl;have ags:w6.cell? ⟨jF,5,none⟩=some (.int .i64 b9):=(af fO.out 5).trans rfl;have JH:=aa fO.out 0;have JI:=aa fO.out 1;have Xx:=aa fO.out 2;have Xy:=aa fO.out 3;have Xz:=aa fO.out 4;have agt:=aa fO.out 5)|((with_reducible refine bE (f:=95) rfl ?_);refine dg (some 6) rfl rfl Tryz.func95 au rfl #[.agg #[.bool false,.slice none 0 0,.string bu,.string bX,.bool cK]] rfl dM ?_;(refine (ez.calls k false _ _ ([]:List ByteArray) bu bX cK true _ ?bk ?bI ?cO A2.out).mono ?_);(case bk=>exact Kd.jq _ _);(case bI=>exact Nat.le_refl _);(case cO=>exact bB.below HG.out aI);rintro e w8 ⟨rfl,hb⟩;refine ⟨_,rfl,?_⟩;replace fO:=ah.mk (az (by exact fO.out) hb);replace HB:=ah.mk (av aI hb);(try clear hb);have BF:w8.cell? ⟨jF,0,none⟩=some (.string bu):=(af fO.out 0).trans rfl;have BG:w8.cell? ⟨jF,1,none⟩=some (.string bX):=(af fO.out 1).trans rfl;have Xq:w8.cell? ⟨jF,2,none⟩=some (.bool cK):=(af fO.out 2).trans rfl;have agu:w8.cell? ⟨jF,3,none⟩=some (.int .u8 bL):=(af fO.out 3).trans rfl;have agv:w8.cell? ⟨jF,4,none⟩=some (.int .i64 bQ):=(af fO.out 4).trans rfl;have agw:w8.cell? ⟨jF,5,none⟩=some (.int .i64 b9):=(af fO.out 5).trans rfl;have BH:=aa fO.out 0;have BI:=aa fO.out 1;have Xr:=aa fO.out 2;have agx:=aa fO.out 3;have agy:=aa fO.out 4;have agz:=aa fO.out 5)|((with_reducible refine bw (N:=17) rfl ?_);(try (refine bO (by rfl) ?_;dsimp only));refine Kd.oa (Kd.int .i64) _ 3 ?hg (N:=17) ?hd (xs:=([bQ,b9]:List Int)) (inner:=[.int .i64 bQ,.int .i64 b9]) (ok:=fun _ =>True) (qK:=fun _ =>True) ?hr ?hp (fun _ hk=>hk) trivial (Below.refl _ _) (Nat.le_refl _) dz ?_;(case hd=>rfl);(case hg=>rfl);(case hr=>(go_simp;done));(case hp=>exact (eo.one (show Kd.M (Kd.int .i64) _ _ _ bQ [.int .i64 bQ] from rfl) (eo.one (show Kd.M (Kd.int .i64) _ _ _ b9 [.int .i64 b9] from rfl) (eo.none _ _))));intro aJH qw agA hb sP iC;clear sP iC;(rw [← ajB.out] at agA);have XB:=ah.mk (Kd.dY agA (bV aI));replace fO:=ah.mk (az (by exact fO.out) hb);replace HB:=ah.mk (av aI hb);clear hb agA;obtain ⟨aJI,aJJ,aC2⟩:=Kd.dF XB.out;subst aC2)|(go_at_call 102;(with_reducible refine (dm.calls k _ _ ajA t206 _ ?bk ?bI A5.out).mono ?_);(case bk=>repeat (exact (Kd.bW XB.out).2.2));(case bI=>exact (Kd.bW XB.out).2.1);rintro e w' ⟨rfl,⟨nd,rfl⟩⟩))
   go_ret
   exact ⟨by rfl,eB⟩
  ·rw [if_neg c4] at H
   have ng:=decide_eq_false c4
   clear c4
   obtain rfl:=Option.some.inj H
   go_enter Tryz.func118,Tryz.ntmps118
   go_wp2_with (first|((with_reducible refine bw (N:=1) rfl ?_);(try (refine bO (by rfl) ?_;dsimp only));refine bA ?hg (N:=1) ?hd (cs:=#[.string bu,.string bX,.bool cK,.int .u8 bL,.int .i64 bQ,.int .i64 b9]) (t:=37) ?hr ?_;(case hd=>rfl);(case hg=>rfl);(case hr=>(go_simp;done));intro jF hg ni bH hb;have fO:=ah.mk (bH);have aeY:=ah.mk ((bG:w.heap.size≤jF));have aeZ:=ah.mk ((bG:w.heap.size≤jF));replace HB:=ah.mk (av aI hb);clear hb bH hg;have Aa:ni.cell? ⟨jF,0,none⟩=some (.string bu):=(af fO.out 0).trans rfl;have Ab:ni.cell? ⟨jF,1,none⟩=some (.string bX):=(af fO.out 1).trans rfl;have Dy:ni.cell? ⟨jF,2,none⟩=some (.bool cK):=(af fO.out 2).trans rfl;have Dz:ni.cell? ⟨jF,3,none⟩=some (.int .u8 bL):=(af fO.out 3).trans rfl;have DA:ni.cell? ⟨jF,4,none⟩=some (.int .i64 bQ):=(af fO.out 4).trans rfl;have DB:ni.cell? ⟨jF,5,none⟩=some (.int .i64 b9):=(af fO.out 5).trans rfl;have Ac:=aa fO.out 0;have Ad:=aa fO.out 1;have DC:=aa fO.out 2;have DD:=aa fO.out 3;have DF:=aa fO.out 4;have DG:=aa fO.out 5)|((with_reducible refine bE (f:=95) rfl ?_);refine dg (some 6) rfl rfl Tryz.func95 au rfl #[.agg #[.bool false,.slice none 0 0,.string bu,.string bX,.bool cK]] rfl dM ?_;(refine (ez.calls k false _ _ ([]:List ByteArray) bu bX cK true _ ?bk ?bI ?cO A2.out).mono ?_);(case bk=>exact Kd.jq _ _);(case bI=>exact Nat.le_refl _);(case cO=>exact bB.below HG.out aI);rintro e wO ⟨rfl,hb⟩;refine ⟨_,rfl,?_⟩;replace fO:=ah.mk (az (by exact fO.out) hb);replace HB:=ah.mk (av aI hb);(try clear hb);have Ak:wO.cell? ⟨jF,0,none⟩=some (.string bu):=(af fO.out 0).trans rfl;have Al:wO.cell? ⟨jF,1,none⟩=some (.string bX):=(af fO.out 1).trans rfl;have Am:wO.cell? ⟨jF,2,none⟩=some (.bool cK):=(af fO.out 2).trans rfl;have Ao:wO.cell? ⟨jF,3,none⟩=some (.int .u8 bL):=(af fO.out 3).trans rfl;have Ap:wO.cell? ⟨jF,4,none⟩=some (.int .i64 bQ):=(af fO.out 4).trans rfl;have Ee:wO.cell? ⟨jF,5,none⟩=some (.int .i64 b9):=(af fO.out 5).trans rfl;have Aq:=aa fO.out 0;have Ar:=aa fO.out 1;have Au:=aa fO.out 2;have Aw:=aa fO.out 3;have Ax:=aa fO.out 4;have Ef:=aa fO.out 5))
   go_ret
   exact ⟨by rfl,aI⟩
 ·replace c3:=Bool.eq_false_iff.mpr c3
  subst c3
  rw [if_neg (show ¬ (false=true) by decide)] at H
  obtain rfl:=Option.some.inj H
  go_enter Tryz.func118,Tryz.ntmps118
  go_wp2_with (first|((with_reducible refine bw (N:=1) rfl ?_);(try (refine bO (by rfl) ?_;dsimp only));refine bA ?hg (N:=1) ?hd (cs:=#[.string bu,.string bX,.bool cK,.int .u8 bL,.int .i64 bQ,.int .i64 b9]) (t:=37) ?hr ?_;(case hd=>rfl);(case hg=>rfl);(case hr=>(go_simp;done));intro jF hg ud bH hb;have fO:=ah.mk (bH);have aeY:=ah.mk ((bG:w.heap.size≤jF));have aeZ:=ah.mk ((bG:w.heap.size≤jF));replace HB:=ah.mk (av aI hb);clear hb bH hg;have DI:ud.cell? ⟨jF,0,none⟩=some (.string bu):=(af fO.out 0).trans rfl;have DJ:ud.cell? ⟨jF,1,none⟩=some (.string bX):=(af fO.out 1).trans rfl;have DK:ud.cell? ⟨jF,2,none⟩=some (.bool cK):=(af fO.out 2).trans rfl;have DL:ud.cell? ⟨jF,3,none⟩=some (.int .u8 bL):=(af fO.out 3).trans rfl;have DM:ud.cell? ⟨jF,4,none⟩=some (.int .i64 bQ):=(af fO.out 4).trans rfl;have IU:ud.cell? ⟨jF,5,none⟩=some (.int .i64 b9):=(af fO.out 5).trans rfl;have DN:=aa fO.out 0;have DR:=aa fO.out 1;have DT:=aa fO.out 2;have DU:=aa fO.out 3;have DV:=aa fO.out 4;have IV:=aa fO.out 5)|((with_reducible refine bE (f:=95) rfl ?_);refine dg (some 6) rfl rfl Tryz.func95 au rfl #[.agg #[.bool false,.slice none 0 0,.string bu,.string bX,.bool cK]] rfl dM ?_;(refine (ez.calls k false _ _ ([]:List ByteArray) bu bX cK false _ ?bk ?bI ?cO A2.out).mono ?_);(case bk=>exact Kd.jq _ _);(case bI=>exact Nat.le_refl _);(case cO=>exact bB.below HG.out aI);rintro e w19 ⟨rfl,hb⟩;refine ⟨_,rfl,?_⟩;replace fO:=ah.mk (az (by exact fO.out) hb);replace HB:=ah.mk (av aI hb);(try clear hb)))
  go_ret
  exact ⟨by rfl,aI⟩
def iL.f (k:Nat) (bu:ByteArray) (bX:ByteArray) (cK:Bool) (bL:Int) (bQ:Int) (b9:Int):Option (Bool):=(ld.f k bu bX cK bL bQ b9).bind fun t208=>(some (!t208))
theorem iL.mono:∀ a0 a1 a2 a3 a4 a5 k,fP (iL.f k a0 a1 a2 a3 a4 a5) (iL.f (k + 1) a0 a1 a2 a3 a4 a5):=by
 intro a0 a1 a2 a3 a4 a5 k
 unfold iL.f
 repeat' (with_reducible first|exact ld.mono _ _ _ _ _ _ _|exact fP.refl _|refine fP.bind ?_ (fun _ =>?_))
theorem iL.calls (k:Nat) (bu:ByteArray) (bX:ByteArray) (cK:Bool) (bL:Int) (bQ:Int) (b9:Int) (r:Bool) (w:World) (hG:bB w) (h:iL.f k bu bX cK bL bQ b9=some r):
 Calls Tryz.prog 117 #[.agg #[.string bu,.string bX,.bool cK,.int .u8 bL,.int .i64 bQ,.int .i64 b9]] w fun e w'=>e= .returned (.bool r)∧Below w.heap.size w w':=by
 have LX:=Tryz.underlying37
 have HB:=ah.mk (Below.refl w.heap.size w)
 have HG:=ah.mk hG
 clear hG
 have H:((ld.f k bu bX cK bL bQ b9).bind fun t208=>(some (!t208)))=some r:=h
 clear h
 obtain ⟨t208,A2,H⟩:=bd_ H
 obtain rfl:=Option.some.inj H
 go_enter Tryz.func117,Tryz.ntmps117
 go_wp2_with (first|((with_reducible refine bw (N:=1) rfl ?_);refine bA ?hg (N:=1) ?hd (cs:=#[.string bu,.string bX,.bool cK,.int .u8 bL,.int .i64 bQ,.int .i64 b9]) (t:=37) ?hr ?_;(case hd=>rfl);(case hg=>rfl);(case hr=>(go_simp;done));intro Cz hg w3 bH hb;have tq:=ah.mk (bH);have aF1:=ah.mk ((bG:w.heap.size≤Cz));have aF2:=ah.mk ((bG:w.heap.size≤Cz));replace HB:=ah.mk (av aI hb);clear hb bH hg;have XC:w3.cell? ⟨Cz,0,none⟩=some (.string bu):=(af tq.out 0).trans rfl;have XD:w3.cell? ⟨Cz,1,none⟩=some (.string bX):=(af tq.out 1).trans rfl;have agB:w3.cell? ⟨Cz,2,none⟩=some (.bool cK):=(af tq.out 2).trans rfl;have agC:w3.cell? ⟨Cz,3,none⟩=some (.int .u8 bL):=(af tq.out 3).trans rfl;have agD:w3.cell? ⟨Cz,4,none⟩=some (.int .i64 bQ):=(af tq.out 4).trans rfl;have agE:w3.cell? ⟨Cz,5,none⟩=some (.int .i64 b9):=(af tq.out 5).trans rfl;have XE:=aa tq.out 0;have XF:=aa tq.out 1;have agF:=aa tq.out 2;have agG:=aa tq.out 3;have agH:=aa tq.out 4;have agI:=aa tq.out 5)|((with_reducible refine bE (f:=118) rfl ?_);refine dg (some 4) rfl rfl Tryz.func118 au rfl #[.agg #[.string bu,.string bX,.bool cK,.int .u8 bL,.int .i64 bQ,.int .i64 b9]] rfl dM ?_;(with_reducible refine (ld.calls k bu bX cK bL bQ b9 t208 _ ?bk A2.out).mono ?_);(case bk=>exact bB.below HG.out aI);rintro e w5 ⟨rfl,hb⟩;refine ⟨_,rfl,?_⟩;replace tq:=ah.mk (az (by exact tq.out) hb);replace HB:=ah.mk (av aI hb);(try clear hb)))
 go_ret
 exact ⟨by rfl,aI⟩
end Go.Proofs.YtbjjaaodfbjkfaaGreatDoor.ow
