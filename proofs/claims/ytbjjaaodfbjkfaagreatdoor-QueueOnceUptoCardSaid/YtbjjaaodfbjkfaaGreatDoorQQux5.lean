import Derived.Test.YtbjjaaodfbjkfaaGreatDoorESlim
import Derived.Test.YtbjjaaodfbjkfaaGreatDoorQQux1
set_option maxHeartbeats 8000000
set_option maxRecDepth 100000
namespace Go.Proofs.YtbjjaaodfbjkfaaGreatDoor.mU
open Go.RowKit Go.Proofs.YtbjjaaodfbjkfaaGreatDoor.yN Go.Proofs.ak.bR Go.Proofs.ak.dz Go.Proofs.ak.cZ
attribute [local go_sem] iR iT jW jX gW gX jh ji
set_option linter.unusedVariables false
set_option linter.unusedSimpArgs false
attribute [local go_sem high] Oc
def dc.f (bg:Int) (bP:Bool) (cH:List ByteArray) (bD:ByteArray) (bI:ByteArray) (bU:Bool) (bL:List (jM)) (cN:List Int) (bW:Int):Option (Bool):=if bg=0 then (if bW=0 then (if bP=true then (some false) else (if (cH.length:Int)=0 then (if (bD.toList == ([]:List UInt8) && (bI.toList == ([]:List UInt8) && (!bU)))=true then (some ((wrap64 ((bL.length:Int) + (cN.length:Int))) == 0)) else (some false)) else (some false))) else (some false)) else (some false)
theorem dc.calls (bg:Int) (bP:Bool) (dS:Option Addr) (dU:Nat) (cH:List ByteArray) (bD:ByteArray) (bI:ByteArray) (bU:Bool) (cV:Option Addr) (cU:Nat) (bL:List (jM)) (dV:Option Addr) (dW:Nat) (cN:List Int) (bW:Int) (r:Bool) (w:World) (qy:Kd.C Kd.string w dS cH.length cH) (qz:cH.length≤dU) (mN:Kd.C sM w cV bL.length bL) (mY:bL.length≤cU) (qA:Kd.C (Kd.int .u8) w dV cN.length cN) (qB:cN.length≤dW) (h:dc.f bg bP cH bD bI bU bL cN bW=some r):
 Calls Tryz.prog 63 #[.agg #[.int .i64 bg,.bool bP,.slice dS cH.length dU,.string bD,.string bI,.bool bU,.slice cV bL.length cU,.slice dV cN.length dW,.int .i64 bW]] w fun e w'=>e= .returned (.bool r)∧Below w.heap.size w w':=by
 have BW:=Tryz.underlying34
 have KD:=Tryz.underlying29
 have mO:=ah.mk qy
 have mP:=ah.mk qz
 clear qy qz
 have lQ:=ah.mk mN
 have mF:=ah.mk mY
 clear mN mY
 have vY:=ah.mk qA
 have vZ:=ah.mk qB
 clear qA qB
 have HB:=ah.mk (Below.refl w.heap.size w)
 have H:(if bg=0 then (if bW=0 then (if bP=true then (some false) else (if (cH.length:Int)=0 then (if (bD.toList == ([]:List UInt8) && (bI.toList == ([]:List UInt8) && (!bU)))=true then (some ((wrap64 ((bL.length:Int) + (cN.length:Int))) == 0)) else (some false)) else (some false))) else (some false)) else (some false))=some r:=h
 clear h
 by_cases c2:bg=0
 ·rw [if_pos c2] at H
  have Aw:=beq_iff_eq.mpr c2
  have TK:=bne_eq_false_iff_eq.mpr c2
  clear c2
  by_cases c3:bW=0
  ·rw [if_pos c3] at H
   have ny:=beq_iff_eq.mpr c3
   have xX:=bne_eq_false_iff_eq.mpr c3
   clear c3
   by_cases c4:bP=true
   ·subst c4
    rw [if_pos rfl] at H
    obtain rfl:=Option.some.inj H
    go_enter Tryz.func63,Tryz.ntmps63
    go_wp2_with (((with_reducible refine bp (N:=1) rfl ?_);(try (refine bV (by rfl) ?_;dsimp only));refine br ?hg (N:=1) ?hd (cs:=#[.int .i64 bg,.bool true,.slice dS cH.length dU,.string bD,.string bI,.bool bU,.slice cV bL.length cU,.slice dV cN.length dW,.int .i64 bW]) (t:=34) ?hr ?_;(case hd=>rfl);(case hg=>rfl);(case hr=>(go_simp;done));intro eW hg w5 bG hb;have cO:=ah.mk (bG);have KE:=ah.mk ((bF:w.heap.size≤eW));have KF:=ah.mk ((bF:w.heap.size≤eW));replace HB:=ah.mk (ay aJ hb);clear hb bG hg;have acD:w5.cell? ⟨eW,0,none⟩=some (.int .i64 bg):=(af cO.out 0).trans rfl;have acE:w5.cell? ⟨eW,1,none⟩=some (.bool true):=(af cO.out 1).trans rfl;have axv:w5.cell? ⟨eW,2,none⟩=some (.slice dS cH.length dU):=(af cO.out 2).trans rfl;have axw:w5.cell? ⟨eW,3,none⟩=some (.string bD):=(af cO.out 3).trans rfl;have axx:w5.cell? ⟨eW,4,none⟩=some (.string bI):=(af cO.out 4).trans rfl;have axy:w5.cell? ⟨eW,5,none⟩=some (.bool bU):=(af cO.out 5).trans rfl;have axz:w5.cell? ⟨eW,6,none⟩=some (.slice cV bL.length cU):=(af cO.out 6).trans rfl;have axA:w5.cell? ⟨eW,7,none⟩=some (.slice dV cN.length dW):=(af cO.out 7).trans rfl;have axB:w5.cell? ⟨eW,8,none⟩=some (.int .i64 bW):=(af cO.out 8).trans rfl;have acF:=aa cO.out 0;have acG:=aa cO.out 1;have axC:=aa cO.out 2;have axD:=aa cO.out 3;have axE:=aa cO.out 4;have axF:=aa cO.out 5;have axG:=aa cO.out 6;have axH:=aa cO.out 7;have axI:=aa cO.out 8))
    go_ret
    exact ⟨by rfl,aJ⟩
   ·replace c4:=Bool.eq_false_iff.mpr c4
    subst c4
    rw [if_neg (show ¬ (false=true) by decide)] at H
    by_cases c7:(cH.length:Int)=0
    ·rw [if_pos c7] at H
     have E3:=beq_iff_eq.mpr c7
     have axJ:=bne_eq_false_iff_eq.mpr c7
     clear c7
     by_cases c8:(bD.toList == ([]:List UInt8) && (bI.toList == ([]:List UInt8) && (!bU)))=true
     ·rw [if_pos c8] at H
      obtain ⟨c8f,c8g,c8h⟩:bD.toList= []∧bI.toList= []∧bU=false:=by simpa using c8
      have Ax:(bD.toList == ([]:List UInt8) && (bI.toList == ([]:List UInt8) && (!bU)))=true:=c8
      (try (have Mo:decide (bD.toList=([]:List UInt8) && (bI.toList == ([]:List UInt8) && (!bU)))=true:=by simpa using c8))
      (try (have acH:(bD.toList == ([]:List UInt8) && (bI.toList == ([]:List UInt8) && (!bU)))=true:=by simpa using c8))
      clear c8
      obtain rfl:=Option.some.inj H
      go_enter Tryz.func63,Tryz.ntmps63
      go_wp2_with (((with_reducible refine bp (N:=1) rfl ?_);(try (refine bV (by rfl) ?_;dsimp only));refine br ?hg (N:=1) ?hd (cs:=#[.int .i64 bg,.bool false,.slice dS cH.length dU,.string bD,.string bI,.bool bU,.slice cV bL.length cU,.slice dV cN.length dW,.int .i64 bW]) (t:=34) ?hr ?_;(case hd=>rfl);(case hg=>rfl);(case hr=>(go_simp;done));intro eW hg w9 bG hb;have cO:=ah.mk (bG);have KE:=ah.mk ((bF:w.heap.size≤eW));have KF:=ah.mk ((bF:w.heap.size≤eW));replace HB:=ah.mk (ay aJ hb);clear hb bG hg;have GS:w9.cell? ⟨eW,0,none⟩=some (.int .i64 bg):=(af cO.out 0).trans rfl;have GU:w9.cell? ⟨eW,1,none⟩=some (.bool false):=(af cO.out 1).trans rfl;have Od:w9.cell? ⟨eW,2,none⟩=some (.slice dS cH.length dU):=(af cO.out 2).trans rfl;have Oe:w9.cell? ⟨eW,3,none⟩=some (.string bD):=(af cO.out 3).trans rfl;have Og:w9.cell? ⟨eW,4,none⟩=some (.string bI):=(af cO.out 4).trans rfl;have VQ:w9.cell? ⟨eW,5,none⟩=some (.bool bU):=(af cO.out 5).trans rfl;have VR:w9.cell? ⟨eW,6,none⟩=some (.slice cV bL.length cU):=(af cO.out 6).trans rfl;have VS:w9.cell? ⟨eW,7,none⟩=some (.slice dV cN.length dW):=(af cO.out 7).trans rfl;have VT:w9.cell? ⟨eW,8,none⟩=some (.int .i64 bW):=(af cO.out 8).trans rfl;have GV:=aa cO.out 0;have GW:=aa cO.out 1;have Oh:=aa cO.out 2;have Oi:=aa cO.out 3;have Oj:=aa cO.out 4;have VU:=aa cO.out 5;have VV:=aa cO.out 6;have VW:=aa cO.out 7;have VX:=aa cO.out 8))
      go_ret
      exact ⟨by rfl,aJ⟩
     ·rw [if_neg c8] at H
      have c8e:(bD.toList= []∧bI.toList= []∧bU=false)=False:=eq_false (fun ⟨h1_,h2_,h3_⟩=>c8 (by simp [h1_,h2_,h3_]))
      have Ax:(bD.toList == ([]:List UInt8) && (bI.toList == ([]:List UInt8) && (!bU)))=false:=by simpa using c8
      (try (have Mo:decide (bD.toList=([]:List UInt8) && (bI.toList == ([]:List UInt8) && (!bU)))=false:=by simpa using c8))
      (try (have acH:(bD.toList == ([]:List UInt8) && (bI.toList == ([]:List UInt8) && (!bU)))=false:=by simpa using c8))
      (try (have axK: ¬ (bD.toList=([]:List UInt8) && (bI.toList == ([]:List UInt8) && (!bU))):=by simpa using c8))
      clear c8
      obtain rfl:=Option.some.inj H
      go_enter Tryz.func63,Tryz.ntmps63
      go_wp2_with (((with_reducible refine bp (N:=1) rfl ?_);(try (refine bV (by rfl) ?_;dsimp only));refine br ?hg (N:=1) ?hd (cs:=#[.int .i64 bg,.bool false,.slice dS cH.length dU,.string bD,.string bI,.bool bU,.slice cV bL.length cU,.slice dV cN.length dW,.int .i64 bW]) (t:=34) ?hr ?_;(case hd=>rfl);(case hg=>rfl);(case hr=>(go_simp;done));intro eW hg xq bG hb;have cO:=ah.mk (bG);have KE:=ah.mk ((bF:w.heap.size≤eW));have KF:=ah.mk ((bF:w.heap.size≤eW));replace HB:=ah.mk (ay aJ hb);clear hb bG hg;have xu:xq.cell? ⟨eW,0,none⟩=some (.int .i64 bg):=(af cO.out 0).trans rfl;have xw:xq.cell? ⟨eW,1,none⟩=some (.bool false):=(af cO.out 1).trans rfl;have zu:xq.cell? ⟨eW,2,none⟩=some (.slice dS cH.length dU):=(af cO.out 2).trans rfl;have CB:xq.cell? ⟨eW,3,none⟩=some (.string bD):=(af cO.out 3).trans rfl;have CC:xq.cell? ⟨eW,4,none⟩=some (.string bI):=(af cO.out 4).trans rfl;have CD:xq.cell? ⟨eW,5,none⟩=some (.bool bU):=(af cO.out 5).trans rfl;have CE:xq.cell? ⟨eW,6,none⟩=some (.slice cV bL.length cU):=(af cO.out 6).trans rfl;have CF:xq.cell? ⟨eW,7,none⟩=some (.slice dV cN.length dW):=(af cO.out 7).trans rfl;have CG:xq.cell? ⟨eW,8,none⟩=some (.int .i64 bW):=(af cO.out 8).trans rfl;have xx:=aa cO.out 0;have xy:=aa cO.out 1;have zw:=aa cO.out 2;have CH:=aa cO.out 3;have CI:=aa cO.out 4;have CJ:=aa cO.out 5;have CK:=aa cO.out 6;have CL:=aa cO.out 7;have CM:=aa cO.out 8))
      go_ret
      exact ⟨by rfl,aJ⟩
    ·rw [if_neg c7] at H
     have E3:=beq_eq_false_iff_ne.mpr c7
     have axJ:=bne_iff_ne.mpr c7
     have aDN: ¬ (cH= []):=fun h_ =>c7 (by rw [h_];rfl)
     obtain rfl:=Option.some.inj H
     go_enter Tryz.func63,Tryz.ntmps63
     go_wp2_with (((with_reducible refine bp (N:=1) rfl ?_);(try (refine bV (by rfl) ?_;dsimp only));refine br ?hg (N:=1) ?hd (cs:=#[.int .i64 bg,.bool false,.slice dS cH.length dU,.string bD,.string bI,.bool bU,.slice cV bL.length cU,.slice dV cN.length dW,.int .i64 bW]) (t:=34) ?hr ?_;(case hd=>rfl);(case hg=>rfl);(case hr=>(go_simp;done));intro eW hg kI bG hb;have cO:=ah.mk (bG);have KE:=ah.mk ((bF:w.heap.size≤eW));have KF:=ah.mk ((bF:w.heap.size≤eW));replace HB:=ah.mk (ay aJ hb);clear hb bG hg;have zx:kI.cell? ⟨eW,0,none⟩=some (.int .i64 bg):=(af cO.out 0).trans rfl;have zy:kI.cell? ⟨eW,1,none⟩=some (.bool false):=(af cO.out 1).trans rfl;have CN:kI.cell? ⟨eW,2,none⟩=some (.slice dS cH.length dU):=(af cO.out 2).trans rfl;have CO:kI.cell? ⟨eW,3,none⟩=some (.string bD):=(af cO.out 3).trans rfl;have CP:kI.cell? ⟨eW,4,none⟩=some (.string bI):=(af cO.out 4).trans rfl;have CQ:kI.cell? ⟨eW,5,none⟩=some (.bool bU):=(af cO.out 5).trans rfl;have GX:kI.cell? ⟨eW,6,none⟩=some (.slice cV bL.length cU):=(af cO.out 6).trans rfl;have GY:kI.cell? ⟨eW,7,none⟩=some (.slice dV cN.length dW):=(af cO.out 7).trans rfl;have GZ:kI.cell? ⟨eW,8,none⟩=some (.int .i64 bW):=(af cO.out 8).trans rfl;have zz:=aa cO.out 0;have zA:=aa cO.out 1;have CR:=aa cO.out 2;have CS:=aa cO.out 3;have CT:=aa cO.out 4;have CU:=aa cO.out 5;have G0:=aa cO.out 6;have G1:=aa cO.out 7;have G3:=aa cO.out 8))
     go_ret
     exact ⟨by rfl,aJ⟩
  ·rw [if_neg c3] at H
   have ny:=beq_eq_false_iff_ne.mpr c3
   have xX:=bne_iff_ne.mpr c3
   obtain rfl:=Option.some.inj H
   go_enter Tryz.func63,Tryz.ntmps63
   go_wp2_with (((with_reducible refine bp (N:=1) rfl ?_);(try (refine bV (by rfl) ?_;dsimp only));refine br ?hg (N:=1) ?hd (cs:=#[.int .i64 bg,.bool bP,.slice dS cH.length dU,.string bD,.string bI,.bool bU,.slice cV bL.length cU,.slice dV cN.length dW,.int .i64 bW]) (t:=34) ?hr ?_;(case hd=>rfl);(case hg=>rfl);(case hr=>(go_simp;done));intro eW hg vF bG hb;have cO:=ah.mk (bG);have KE:=ah.mk ((bF:w.heap.size≤eW));have KF:=ah.mk ((bF:w.heap.size≤eW));replace HB:=ah.mk (ay aJ hb);clear hb bG hg;have xz:vF.cell? ⟨eW,0,none⟩=some (.int .i64 bg):=(af cO.out 0).trans rfl;have xA:vF.cell? ⟨eW,1,none⟩=some (.bool bP):=(af cO.out 1).trans rfl;have xB:vF.cell? ⟨eW,2,none⟩=some (.slice dS cH.length dU):=(af cO.out 2).trans rfl;have xC:vF.cell? ⟨eW,3,none⟩=some (.string bD):=(af cO.out 3).trans rfl;have xD:vF.cell? ⟨eW,4,none⟩=some (.string bI):=(af cO.out 4).trans rfl;have zB:vF.cell? ⟨eW,5,none⟩=some (.bool bU):=(af cO.out 5).trans rfl;have CV:vF.cell? ⟨eW,6,none⟩=some (.slice cV bL.length cU):=(af cO.out 6).trans rfl;have CX:vF.cell? ⟨eW,7,none⟩=some (.slice dV cN.length dW):=(af cO.out 7).trans rfl;have CY:vF.cell? ⟨eW,8,none⟩=some (.int .i64 bW):=(af cO.out 8).trans rfl;have xE:=aa cO.out 0;have xG:=aa cO.out 1;have xH:=aa cO.out 2;have xI:=aa cO.out 3;have xJ:=aa cO.out 4;have zC:=aa cO.out 5;have CZ:=aa cO.out 6;have C0:=aa cO.out 7;have C2:=aa cO.out 8))
   go_ret
   exact ⟨by rfl,aJ⟩
 ·rw [if_neg c2] at H
  have Aw:=beq_eq_false_iff_ne.mpr c2
  have TK:=bne_iff_ne.mpr c2
  obtain rfl:=Option.some.inj H
  go_enter Tryz.func63,Tryz.ntmps63
  go_wp2_with (((with_reducible refine bp (N:=1) rfl ?_);(try (refine bV (by rfl) ?_;dsimp only));refine br ?hg (N:=1) ?hd (cs:=#[.int .i64 bg,.bool bP,.slice dS cH.length dU,.string bD,.string bI,.bool bU,.slice cV bL.length cU,.slice dV cN.length dW,.int .i64 bW]) (t:=34) ?hr ?_;(case hd=>rfl);(case hg=>rfl);(case hr=>(go_simp;done));intro eW hg sN bG hb;have cO:=ah.mk (bG);have KE:=ah.mk ((bF:w.heap.size≤eW));have KF:=ah.mk ((bF:w.heap.size≤eW));replace HB:=ah.mk (ay aJ hb);clear hb bG hg;have zD:sN.cell? ⟨eW,0,none⟩=some (.int .i64 bg):=(af cO.out 0).trans rfl;have zE:sN.cell? ⟨eW,1,none⟩=some (.bool bP):=(af cO.out 1).trans rfl;have C3:sN.cell? ⟨eW,2,none⟩=some (.slice dS cH.length dU):=(af cO.out 2).trans rfl;have C4:sN.cell? ⟨eW,3,none⟩=some (.string bD):=(af cO.out 3).trans rfl;have C5:sN.cell? ⟨eW,4,none⟩=some (.string bI):=(af cO.out 4).trans rfl;have G5:sN.cell? ⟨eW,5,none⟩=some (.bool bU):=(af cO.out 5).trans rfl;have Ol:sN.cell? ⟨eW,6,none⟩=some (.slice cV bL.length cU):=(af cO.out 6).trans rfl;have Om:sN.cell? ⟨eW,7,none⟩=some (.slice dV cN.length dW):=(af cO.out 7).trans rfl;have Oo:sN.cell? ⟨eW,8,none⟩=some (.int .i64 bW):=(af cO.out 8).trans rfl;have zF:=aa cO.out 0;have zG:=aa cO.out 1;have C6:=aa cO.out 2;have C7:=aa cO.out 3;have C8:=aa cO.out 4;have G6:=aa cO.out 5;have Oq:=aa cO.out 6;have Ot:=aa cO.out 7;have Ou:=aa cO.out 8))
  go_ret
  exact ⟨by rfl,aJ⟩
def dR (w0 W:World) (g:Nat) (f0:ByteArray) (f1:Int):Prop:=W.heap[g]? =some (.cells #[.string f0,.int .i64 f1] 132 (0,0))∧w0.heap.size≤g
theorem dR.grown {w0 W:World} {g:Nat} {f0:ByteArray} {f1:Int} {W1:World} {row:Option Nat} (h:dR w0 W g f0 f1) (hw:W.grownBy W1 row) (hne:some g≠row):dR w0 W1 g f0 f1:=by
 obtain ⟨hb,hg⟩:=h
 exact ⟨fM hb hw hne,hg⟩
theorem dR.kept {w0 W:World} {g:Nat} {f0:ByteArray} {f1:Int} {W1:World} {S:Nat→Prop} (h:dR w0 W g f0 f1) (hk:Kept W W1 S) (hne: ¬ S g):dR w0 W1 g f0 f1:=by
 obtain ⟨hb,hg⟩:=h
 exact ⟨DN hb hk hne,hg⟩
theorem dR.below {w0 W:World} {g:Nat} {f0:ByteArray} {f1:Int} {W1:World} (h:dR w0 W g f0 f1) (hw:Below W.heap.size W W1):dR w0 W1 g f0 f1:=h.grown (mL hw none) cF
theorem dR.alloc {w0 W:World} {g:Nat} {f0:ByteArray} {f1:Int} (h:dR w0 W g f0 f1) (o:Obj):dR w0 (W.alloc o) g f0 f1:=h.below (b9 (Below.refl _ _) o)
theorem dR.drewN {w0 W:World} {g:Nat} {f0:ByteArray} {f1:Int} (h:dR w0 W g f0 f1) (m:Nat):dR w0 (W.drewN m) g f0 f1:=h
theorem dR.drew {w0 W:World} {g:Nat} {f0:ByteArray} {f1:Int} (h:dR w0 W g f0 f1):dR w0 W.drew g f0 f1:=h
theorem dR.at_ {w0 W:World} {g:Nat} {f0:ByteArray} {f1:Int} {w':World} {m:Nat} (hq:W.drewN m=w') (h:dR w0 W g f0 f1):dR w0 w' g f0 f1:=by subst hq;exact dR.drewN h m
theorem dR.apart {w0 W:World} {g:Nat} {f0:ByteArray} {f1:Int} {α:Type} {d:Kd α} {e:Nat} {base:Nat} {ok:Nat→Prop} {v:Value} {xs:List α} (h:dR w0 W g f0 f1) (ho:d.R e W base ok v xs) (ht:∀ q,q∈e :: d.E→q≠132):d.R e W base (fun k=>ok k∧k≠g) v xs:=by
 obtain ⟨hb,hg⟩:=h
 exact Kd.dD ho hb ht
theorem dR.own_ne {w0 W:World} {g:Nat} {f0:ByteArray} {f1:Int} {α:Type} {d:Kd α} {e:Nat} {base:Nat} {ok:Nat→Prop} {v:Value} {xs:List α} (h:dR w0 W g f0 f1) (ho:d.R e W base ok v xs) (ht:e≠132):some g≠v.ownBlock:=by
 obtain ⟨hb,hg⟩:=h
 exact Kd.zk ho hb ht
theorem dR.ge {w0 W:World} {g:Nat} {f0:ByteArray} {f1:Int} (h:dR w0 W g f0 f1):w0.heap.size≤g:=by
 obtain ⟨hb,hg⟩:=h
 exact hg
theorem dR.far {w0 W:World} {g:Nat} {f0:ByteArray} {f1:Int} {p:Addr} (h:dR w0 W g f0 f1) (hne:g≠p.block) (u:Value):dR w0 (W.setCell p u) g f0 f1:=by
 obtain ⟨hb,hg⟩:=h
 exact ⟨aU hb hne u,hg⟩
theorem kA {W:World} {g:Nat} {f0:ByteArray} {f1:Int} (h:W.heap[g]? =some (.cells #[.string f0,.int .i64 f1] 132 (0,0))):W.cell? ⟨g,0,none⟩=some (.string f0):=(af h 0).trans rfl
theorem kB {W:World} {g:Nat} {f0:ByteArray} {f1:Int} (h:W.heap[g]? =some (.cells #[.string f0,.int .i64 f1] 132 (0,0))):W.cell? ⟨g,1,none⟩=some (.int .i64 f1):=(af h 1).trans rfl
theorem dR.afe {w0 W:World} {g:Nat} {f0:ByteArray} {f1:Int} (h:dR w0 W g f0 f1) (x:Int):dR w0 (W.setCell ⟨g,1,none⟩ (.int .i64 x)) g f0 x:=by
 obtain ⟨hb,hg⟩:=h
 exact ⟨by simpa using GK hb 1 (.int .i64 x),hg⟩
theorem dR.new (w0 W:World) (f0:ByteArray) (f1:Int) (hB:Below w0.heap.size w0 W):dR w0 (W.alloc (.cells #[.string f0,.int .i64 f1] 132)) W.heap.size f0 f1:=⟨by simpa using heap_alloc_new W _,hB.size⟩
def jq.f (jY:ByteArray) (gZ:Int) (a1:Int):Option (Bool×ByteArray×Int):=if gZ < (jY.size:Int) then (if 0≤gZ then (if (bt jY gZ)=a1 then (some (true,jY,wrap64 (gZ + 1))) else (some (false,jY,gZ))) else (none)) else (some (false,jY,gZ))
theorem jq.calls (g:Nat) (jY:ByteArray) (gZ:Int) (a1:Int) (r1:Bool) (r2:ByteArray) (r3:Int) (w0 w:World) (hI:dR w0 w g jY gZ) (hB:Below w0.heap.size w0 w) (h:jq.f jY gZ a1=some (r1,r2,r3)):
 Calls Tryz.prog 179 #[.pointer (some ⟨g,0,none⟩),.int .u8 a1] w fun e w'=>e= .returned (.bool r1)∧dR w0 w' g r2 r3∧Below w0.heap.size w0 w'∧dF w w' g none:=by
 have rB:=ah.mk hI
 have HK:=ah.mk (dF.refl w g none)
 have HL:=ah.mk hB.size
 clear hI
 have HW0:=ah.mk hB.size
 have HB:=ah.mk hB
 clear hB
 have H:(if gZ < (jY.size:Int) then (if 0≤gZ then (if (bt jY gZ)=a1 then (some (true,jY,wrap64 (gZ + 1))) else (some (false,jY,gZ))) else (none)) else (some (false,jY,gZ)))=some (r1,r2,r3):=h
 clear h
 by_cases c3:gZ < (jY.size:Int)
 ·rw [if_pos c3] at H
  have ny:=decide_eq_true c3
  clear c3
  obtain ⟨c4,H⟩:=lO H
  have mQ:=decide_eq_true c4
  clear c4
  by_cases c6:(bt jY gZ)=a1
  ·rw [if_pos c6] at H
   have zH:=beq_iff_eq.mpr c6
   have TL:=bne_eq_false_iff_eq.mpr c6
   clear c6
   simp only [Option.some.injEq,Prod.mk.injEq] at H
   obtain ⟨rfl,rfl,rfl⟩:=H
   obtain ⟨DT,acI⟩:=rB.out
   have G7:=kA DT
   have G8:=kB DT
   have G9:=aa DT 0
   have He:=aa DT 1
   clear DT acI
   have p5: 0≤(gZ:Int):=of_decide_eq_true cj
   have q5:gZ < (jY.size:Int):=of_decide_eq_true cj
   have BF:=vD jY gZ
   replace p5:=eq_true p5
   replace q5:=eq_true q5
   go_enter Tryz.func179,Tryz.ntmps179
   go_wp2
   repeat (go_quiet (fail);try go_wp2)
   go_ret
   exact ⟨by rfl,NS,NQ,NU⟩
  ·rw [if_neg c6] at H
   have zH:=beq_eq_false_iff_ne.mpr c6
   have TL:=bne_iff_ne.mpr c6
   simp only [Option.some.injEq,Prod.mk.injEq] at H
   obtain ⟨rfl,rfl,rfl⟩:=H
   obtain ⟨DU,acJ⟩:=rB.out
   have DV:=kA DU
   have DW:=kB DU
   have DX:=aa DU 0
   have DY:=aa DU 1
   clear DU acJ
   have p5: 0≤(gZ:Int):=of_decide_eq_true cj
   have q5:gZ < (jY.size:Int):=of_decide_eq_true cj
   have BF:=vD jY gZ
   replace p5:=eq_true p5
   replace q5:=eq_true q5
   go_enter Tryz.func179,Tryz.ntmps179
   go_wp2
   repeat (go_quiet (fail);try go_wp2)
   go_ret
   exact ⟨by rfl,Gh,dZ,Cj⟩
 ·rw [if_neg c3] at H
  have ny:=decide_eq_false c3
  clear c3
  simp only [Option.some.injEq,Prod.mk.injEq] at H
  obtain ⟨rfl,rfl,rfl⟩:=H
  obtain ⟨DZ,acK⟩:=rB.out
  have Ay:=kA DZ
  have Az:=kB DZ
  have AA:=aa DZ 0
  have AB:=aa DZ 1
  clear DZ acK
  go_enter Tryz.func179,Tryz.ntmps179
  go_wp2
  repeat (go_quiet (fail);try go_wp2)
  go_ret
  exact ⟨by rfl,Gh,dZ,Cj⟩
def mR.f (a0:Int):Option (Bool):=if a0≥97 then (if a0≤122 then (some true) else (if a0≥65 then (some (decide (a0≤90))) else (some false))) else (if a0≥65 then (some (decide (a0≤90))) else (some false))
theorem mR.calls (a0:Int) (r:Bool) (w:World) (h:mR.f a0=some r):
 Calls Tryz.prog 182 #[.int .u8 a0] w fun e w'=>e= .returned (.bool r)∧iy w w':=by
 have H:(if a0≥97 then (if a0≤122 then (some true) else (if a0≥65 then (some (decide (a0≤90))) else (some false))) else (if a0≥65 then (some (decide (a0≤90))) else (some false)))=some r:=h
 clear h
 by_cases c2:a0≥97
 ·rw [if_pos c2] at H
  have Aw:decide (97≤a0)=true:=decide_eq_true c2
  clear c2
  by_cases c3:a0≤122
  ·rw [if_pos c3] at H
   have ny:=decide_eq_true c3
   clear c3
   obtain rfl:=Option.some.inj H
   go_enter Tryz.func182,Tryz.ntmps182
   go_wp2
   go_ret
   exact ⟨by rfl,mB⟩
  ·rw [if_neg c3] at H
   have ny:=decide_eq_false c3
   clear c3
   by_cases c4:a0≥65
   ·rw [if_pos c4] at H
    have mQ:decide (65≤a0)=true:=decide_eq_true c4
    clear c4
    obtain rfl:=Option.some.inj H
    go_enter Tryz.func182,Tryz.ntmps182
    go_wp2
    go_ret
    exact ⟨by rfl,mB⟩
   ·rw [if_neg c4] at H
    have mQ:decide (65≤a0)=false:=decide_eq_false c4
    clear c4
    obtain rfl:=Option.some.inj H
    go_enter Tryz.func182,Tryz.ntmps182
    go_wp2
    go_ret
    exact ⟨by rfl,mB⟩
 ·rw [if_neg c2] at H
  have Aw:decide (97≤a0)=false:=decide_eq_false c2
  clear c2
  by_cases c5:a0≥65
  ·rw [if_pos c5] at H
   have p8:decide (65≤a0)=true:=decide_eq_true c5
   clear c5
   obtain rfl:=Option.some.inj H
   go_enter Tryz.func182,Tryz.ntmps182
   go_wp2
   go_ret
   exact ⟨by rfl,mB⟩
  ·rw [if_neg c5] at H
   have p8:decide (65≤a0)=false:=decide_eq_false c5
   clear c5
   obtain rfl:=Option.some.inj H
   go_enter Tryz.func182,Tryz.ntmps182
   go_wp2
   go_ret
   exact ⟨by rfl,mB⟩
def pL.f (a0:Int):Option (Bool):=if a0≥48 then (some (decide (a0≤57))) else (some false)
theorem pL.calls (a0:Int) (r:Bool) (w:World) (h:pL.f a0=some r):
 Calls Tryz.prog 183 #[.int .u8 a0] w fun e w'=>e= .returned (.bool r)∧iy w w':=by
 have H:(if a0≥48 then (some (decide (a0≤57))) else (some false))=some r:=h
 clear h
 by_cases c2:a0≥48
 ·rw [if_pos c2] at H
  have Aw:decide (48≤a0)=true:=decide_eq_true c2
  clear c2
  obtain rfl:=Option.some.inj H
  go_enter Tryz.func183,Tryz.ntmps183
  go_wp2
  go_ret
  exact ⟨by rfl,mB⟩
 ·rw [if_neg c2] at H
  have Aw:decide (48≤a0)=false:=decide_eq_false c2
  clear c2
  obtain rfl:=Option.some.inj H
  go_enter Tryz.func183,Tryz.ntmps183
  go_wp2
  go_ret
  exact ⟨by rfl,mB⟩
def fH.f (a0:Int):Option (Bool):=(mR.f a0).bind fun t136=>(if t136=true then (some true) else ((pL.f a0).bind fun t137=>(if t137=true then (some true) else (some (a0 == 45)))))
theorem fH.calls (a0:Int) (r:Bool) (w:World) (h:fH.f a0=some r):
 Calls Tryz.prog 181 #[.int .u8 a0] w fun e w'=>e= .returned (.bool r)∧iy w w':=by
 have H:((mR.f a0).bind fun t136=>(if t136=true then (some true) else ((pL.f a0).bind fun t137=>(if t137=true then (some true) else (some (a0 == 45))))))=some r:=h
 clear h
 obtain ⟨t136,A2,H⟩:=bd_ H
 by_cases c3:t136=true
 ·subst c3
  rw [if_pos rfl] at H
  obtain rfl:=Option.some.inj H
  go_enter Tryz.func181,Tryz.ntmps181
  go_wp2_with (((with_reducible refine bK (f:=182) rfl ?_);refine dB (some 4) rfl rfl Tryz.func182 aq rfl #[.int .u8 a0] rfl dK ?_;(with_reducible refine (mR.calls a0 true _ A2.out).mono ?_);rintro e w' ⟨rfl,⟨nd,rfl⟩⟩;refine ⟨_,rfl,?_⟩))
  go_ret
  exact ⟨by rfl,kQ⟩
 ·replace c3:=Bool.eq_false_iff.mpr c3
  subst c3
  rw [if_neg (show ¬ (false=true) by decide)] at H
  obtain ⟨t137,A4,H⟩:=bd_ H
  by_cases c5:t137=true
  ·subst c5
   rw [if_pos rfl] at H
   obtain rfl:=Option.some.inj H
   go_enter Tryz.func181,Tryz.ntmps181
   go_wp2_with (first|((with_reducible refine bK (f:=182) rfl ?_);refine dB (some 4) rfl rfl Tryz.func182 aq rfl #[.int .u8 a0] rfl dK ?_;(with_reducible refine (mR.calls a0 false _ A2.out).mono ?_);rintro e w' ⟨rfl,⟨nd,rfl⟩⟩;refine ⟨_,rfl,?_⟩)|(go_at_call 183;(with_reducible refine (pL.calls a0 true _ A4.out).mono ?_);rintro e w' ⟨rfl,⟨nd,rfl⟩⟩))
   go_ret
   exact ⟨by rfl,kQ⟩
  ·replace c5:=Bool.eq_false_iff.mpr c5
   subst c5
   rw [if_neg (show ¬ (false=true) by decide)] at H
   obtain rfl:=Option.some.inj H
   go_enter Tryz.func181,Tryz.ntmps181
   go_wp2_with (first|((with_reducible refine bK (f:=182) rfl ?_);refine dB (some 4) rfl rfl Tryz.func182 aq rfl #[.int .u8 a0] rfl dK ?_;(with_reducible refine (mR.calls a0 false _ A2.out).mono ?_);rintro e w' ⟨rfl,⟨nd,rfl⟩⟩;refine ⟨_,rfl,?_⟩)|(go_at_call 183;(with_reducible refine (pL.calls a0 false _ A4.out).mono ?_);rintro e w' ⟨rfl,⟨nd,rfl⟩⟩))
   go_ret
   exact ⟨by rfl,kQ⟩
def aQ.l0:Nat→Int→ByteArray→Int→Option (ByteArray×Bool×ByteArray×Int)
 | 0,_,_,_ =>none
 |k + 1,x6,wh,qC=>if qC < (wh.size:Int) then (if 0≤qC then ((fH.f (bt wh qC)).bind fun t138=>(if t138=true then (aQ.l0 k x6 wh (wrap64 (qC + 1))) else (if 0≤x6 then (if x6≤qC then (if qC≤(wh.size:Int) then (some (wh.extract (x6:Int).toNat (qC:Int).toNat,decide (qC > x6),wh,qC)) else (none)) else (none)) else (none)))) else (none)) else (if 0≤x6 then (if x6≤qC then (if qC≤(wh.size:Int) then (some (wh.extract (x6:Int).toNat (qC:Int).toNat,decide (qC > x6),wh,qC)) else (none)) else (none)) else (none))
def aQ.f (k:Nat) (jY:ByteArray) (gZ:Int):Option (ByteArray×Bool×ByteArray×Int):=aQ.l0 k gZ jY gZ
theorem aQ.ey:∀ k,(∀ y0 y1 y2,eZ (aQ.l0 k y0 y1 y2) (aQ.l0 (k + 1) y0 y1 y2))
 | 0=>fun _ _ _ r h=>by simp [aQ.l0] at h
 |k + 1=>by
  have mH:=aQ.ey k
  ·intro y0 y1 y2
   unfold aQ.l0
   repeat' (with_reducible first|exact mH _ _ _|exact eZ.refl _|refine eZ.ite ?_ ?_|refine eZ.bind ?_ (fun _ =>?_))
theorem aQ.mono:∀ a0 a1 k,eZ (aQ.f k a0 a1) (aQ.f (k + 1) a0 a1):=by
 intro a0 a1 k
 have mH:=aQ.ey k
 unfold aQ.f
 repeat' (with_reducible exact mH _ _ _)
theorem aQ.calls (k:Nat) (g:Nat) (jY:ByteArray) (gZ:Int) (r1:ByteArray) (r2:Bool) (r3:ByteArray) (r4:Int) (w0 w:World) (hI:dR w0 w g jY gZ) (hB:Below w0.heap.size w0 w) (h:aQ.f k jY gZ=some (r1,r2,r3,r4)):
 Calls Tryz.prog 180 #[.pointer (some ⟨g,0,none⟩),.func (.func 181) #[] #[]] w fun e w'=>e= .returned (.tuple #[.string r1,.bool r2])∧dR w0 w' g r3 r4∧Below w0.heap.size w0 w'∧dF w w' g none:=by
 have rB:=ah.mk hI
 have HK:=ah.mk (dF.refl w g none)
 have HL:=ah.mk hB.size
 clear hI
 have HW0:=ah.mk hB.size
 have HB:=ah.mk hB
 clear hB
 have H:(aQ.l0 k gZ jY gZ)=some (r1,r2,r3,r4):=h
 clear h
 have H':=ah.mk H
 clear H
 obtain ⟨TM,axL⟩:=rB.out
 have TN:=kA TM
 have TP:=kB TM
 have TQ:=aa TM 0
 have TR:=aa TM 1
 clear TM axL
 go_enter Tryz.func180,Tryz.ntmps180
 go_wp2
 repeat (go_quiet (fail);skip)
 go_loopg [] k (fun kq w'=>∃ (kD:ByteArray) (jF:Int),ah (aQ.l0 kq gZ kD jF=some (r1,r2,r3,r4))∧ah (kq≤k)∧ah (dR w0 w' g kD jF)∧ah (dF w w' g none)∧ah (Below w0.heap.size w0 w'))
 case atStart=>exact ⟨(jY),(gZ),H',⟨Nat.le_refl _⟩,⟨sJ⟩,⟨kr⟩,⟨aJ⟩⟩
 case round=>
  clear H'
  obtain ⟨kD,jF,HA,qi,rB,HK,HB⟩:=hrel
  cases gk with
  |zero=>exact absurd HA.out (by simp [aQ.l0])
  |succ k1=>
   have H:=HA.out
   clear HA
   simp only [aQ.l0] at H
   by_cases c4:jF < (kD.size:Int)
   ·rw [if_pos c4] at H
    have mQ:=decide_eq_true c4
    clear c4
    obtain ⟨c5,H⟩:=lO H
    have p8:=decide_eq_true c5
    clear c5
    obtain ⟨t138,A7,H⟩:=bd_ H
    by_cases c8:t138=true
    ·subst c8
     rw [if_pos rfl] at H
     have H':=ah.mk H
     clear H
     obtain ⟨DZ,acK⟩:=rB.out
     have Ay:=kA DZ
     have Az:=kB DZ
     have AA:=aa DZ 0
     have AB:=aa DZ 1
     clear DZ acK
     have p6: 0≤(jF:Int):=of_decide_eq_true cj
     have q6:jF < (kD.size:Int):=of_decide_eq_true cj
     have LR:=vD kD jF
     replace p6:=eq_true p6
     replace q6:=eq_true q6
     go_wp2_with (fail)
     repeat (go_quiet ((go_at_call 181;(with_reducible refine (fH.calls (bt kD jF) true _ A7.out).mono ?_);rintro e w' ⟨rfl,⟨nd,rfl⟩⟩;(try exact ⟨rfl,_,World.drewN_drewN _ _ _⟩)));try go_wp2_with (fail))
     go_roundg k1
     case measure=>have:=qi.out;omega
     case rel=>exact ⟨(kD),(wrap64 (jF + 1)),H',⟨lu⟩,⟨NS⟩,⟨NU⟩,⟨NQ⟩⟩
    ·replace c8:=Bool.eq_false_iff.mpr c8
     subst c8
     rw [if_neg (show ¬ (false=true) by decide)] at H
     obtain ⟨c10,H⟩:=lO H
     have BG:=eq_true c10
     have Ov:=decide_eq_true c10
     clear c10
     obtain ⟨c11,H⟩:=lO H
     have zI:=eq_true c11
     have aAc:=decide_eq_true c11
     clear c11
     obtain ⟨c12,H⟩:=lO H
     have Fx:=eq_true c12
     have TS:=decide_eq_true c12
     clear c12
     simp only [Option.some.injEq,Prod.mk.injEq] at H
     obtain ⟨rfl,rfl,rfl,rfl⟩:=H
     obtain ⟨KG,afv⟩:=rB.out
     have VY:=kA KG
     have VZ:=kB KG
     have V2:=aa KG 0
     have V3:=aa KG 1
     clear KG afv
     have p6: 0≤(jF:Int):=of_decide_eq_true cj
     have q6:jF < (kD.size:Int):=of_decide_eq_true cj
     have LR:=vD kD jF
     replace p6:=eq_true p6
     replace q6:=eq_true q6
     go_wp2_with (fail)
     repeat (go_quiet ((go_at_call 181;(with_reducible refine (fH.calls (bt kD jF) false _ A7.out).mono ?_);rintro e w' ⟨rfl,⟨nd,rfl⟩⟩;(try exact ⟨rfl,_,World.drewN_drewN _ _ _⟩)));try go_wp2_with (fail))
     go_ret2
     exact ⟨by rfl,Gh,dZ,Cj⟩
   ·rw [if_neg c4] at H
    have mQ:=decide_eq_false c4
    clear c4
    obtain ⟨c14,H⟩:=lO H
    have TT:=eq_true c14
    have TU:=decide_eq_true c14
    clear c14
    obtain ⟨c15,H⟩:=lO H
    have abh:=eq_true c15
    have aAd:=decide_eq_true c15
    clear c15
    obtain ⟨c16,H⟩:=lO H
    have aAe:=eq_true c16
    have aAf:=decide_eq_true c16
    clear c16
    simp only [Option.some.injEq,Prod.mk.injEq] at H
    obtain ⟨rfl,rfl,rfl,rfl⟩:=H
    obtain ⟨KH,afw⟩:=rB.out
    have V4:=kA KH
    have V5:=kB KH
    have V6:=aa KH 0
    have V7:=aa KH 1
    clear KH afw
    go_wp2
    repeat (go_quiet (fail);try go_wp2)
    go_ret2
    exact ⟨by rfl,Gh,dZ,Cj⟩
def fk.f (k:Nat) (jY:ByteArray) (gZ:Int):Option (Bool×ByteArray×Int):=(aQ.f k jY gZ).bind fun kN=>(if kN.2.1=true then (if 0 < (kN.1.size:Int) then (if (bt kN.1 0)=45 then (some (false,kN.2.2.1,kN.2.2.2)) else (if 0≤(wrap64 ((kN.1.size:Int) - 1)) then (if (wrap64 ((kN.1.size:Int) - 1)) < (kN.1.size:Int) then (some (((bt kN.1 (wrap64 ((kN.1.size:Int) - 1))) != 45),kN.2.2.1,kN.2.2.2)) else (none)) else (none))) else (none)) else (some (false,kN.2.2.1,kN.2.2.2)))
theorem fk.mono:∀ a0 a1 k,eZ (fk.f k a0 a1) (fk.f (k + 1) a0 a1):=by
 intro a0 a1 k
 unfold fk.f
 repeat' (with_reducible first|exact aQ.mono _ _ _|exact eZ.refl _|refine eZ.bind ?_ (fun _ =>?_))
theorem fk.calls (k:Nat) (g:Nat) (jY:ByteArray) (gZ:Int) (r1:Bool) (r2:ByteArray) (r3:Int) (w0 w:World) (hI:dR w0 w g jY gZ) (hB:Below w0.heap.size w0 w) (h:fk.f k jY gZ=some (r1,r2,r3)):
 Calls Tryz.prog 138 #[.pointer (some ⟨g,0,none⟩)] w fun e w'=>e= .returned (.bool r1)∧dR w0 w' g r2 r3∧Below w0.heap.size w0 w'∧dF w w' g none:=by
 have rB:=ah.mk hI
 have HK:=ah.mk (dF.refl w g none)
 have HL:=ah.mk hB.size
 clear hI
 have HW0:=ah.mk hB.size
 have HB:=ah.mk hB
 clear hB
 have H:((aQ.f k jY gZ).bind fun kN=>(if kN.2.1=true then (if 0 < (kN.1.size:Int) then (if (bt kN.1 0)=45 then (some (false,kN.2.2.1,kN.2.2.2)) else (if 0≤(wrap64 ((kN.1.size:Int) - 1)) then (if (wrap64 ((kN.1.size:Int) - 1)) < (kN.1.size:Int) then (some (((bt kN.1 (wrap64 ((kN.1.size:Int) - 1))) != 45),kN.2.2.1,kN.2.2.2)) else (none)) else (none))) else (none)) else (some (false,kN.2.2.1,kN.2.2.2))))=some (r1,r2,r3):=h
 clear h
 obtain ⟨⟨t139,t140,t141,t142⟩,A2,H⟩:=bd_ H
 (try dsimp only at H)
 by_cases c3:t140=true
 ·subst c3
  rw [if_pos rfl] at H
  obtain ⟨c4,H⟩:=lO H
  have mQ:=decide_eq_true c4
  have AE:decide (0 < t139.size)=true:=decide_eq_true az
  clear c4
  by_cases c6:(bt t139 0)=45
  ·rw [if_pos c6] at H
   have zH:=beq_iff_eq.mpr c6
   have TL:=bne_eq_false_iff_eq.mpr c6
   clear c6
   simp only [Option.some.injEq,Prod.mk.injEq] at H
   obtain ⟨rfl,rfl,rfl⟩:=H
   go_enter Tryz.func138,Tryz.ntmps138
   go_wp2_with (((with_reducible refine bK (f:=180) rfl ?_);refine dB (some 7) rfl rfl Tryz.func180 aq rfl #[.pointer (some ⟨g,0,none⟩),.func (.func 181) #[] #[]] rfl dK ?_;(with_reducible refine (aQ.calls k g jY gZ t139 true t141 t142 w0 _ ?bn ?bN A2.out).mono ?_);(case bn=>repeat ((with_reducible exact rB.out)));(case bN=>repeat ((with_reducible exact HB.out)));rintro e w7 ⟨rfl,hi,hb,hk⟩;refine ⟨_,rfl,?_⟩;replace HK:=ah.mk (dF.trans kr hk (.inl rfl));replace HB:=ah.mk (hb);replace rB:=ah.mk (hi);(try clear hb);(try clear hk);(try clear hi);have p5: 0≤(0:Int):=az;have q5: 0 < t139.size:=(by have:(0:Int) < (t139.size:Int):=of_decide_eq_true cj;omega);have BF:∀ h: 0 < t139.size,((t139[0]'h).toNat:Int)=bt t139 0:=vD t139 0;clear p5;have qi5:(0 < (t139.size:Int))=True:=eq_true (of_decide_eq_true cj);replace q5:=eq_true q5))
   go_ret
   exact ⟨by rfl,sJ,aJ,kr⟩
  ·rw [if_neg c6] at H
   have zH:=beq_eq_false_iff_ne.mpr c6
   have TL:=bne_iff_ne.mpr c6
   obtain ⟨ji8,afx⟩:∃ j_:Int,(wrap64 ((t139.size:Int) - 1))=j_ :=⟨_,rfl⟩
   (rw [afx] at H)
   have aAg:(IntKind.i64.wrap ((t139.size:Int) - 1))=ji8:=(aV _).trans afx
   obtain ⟨c9,H⟩:=lO H
   have V8:=decide_eq_true c9
   clear c9
   obtain ⟨c10,H⟩:=lO H
   have BG:=decide_eq_true c10
   clear c10
   simp only [Option.some.injEq,Prod.mk.injEq] at H
   obtain ⟨rfl,rfl,rfl⟩:=H
   go_enter Tryz.func138,Tryz.ntmps138
   go_wp2_with (((with_reducible refine bK (f:=180) rfl ?_);refine dB (some 7) rfl rfl Tryz.func180 aq rfl #[.pointer (some ⟨g,0,none⟩),.func (.func 181) #[] #[]] rfl dK ?_;(with_reducible refine (aQ.calls k g jY gZ t139 true t141 t142 w0 _ ?bn ?bN A2.out).mono ?_);(case bn=>repeat ((with_reducible exact rB.out)));(case bN=>repeat ((with_reducible exact HB.out)));rintro e D3 ⟨rfl,hi,hb,hk⟩;refine ⟨_,rfl,?_⟩;replace HK:=ah.mk (dF.trans kr hk (.inl rfl));replace HB:=ah.mk (hb);replace rB:=ah.mk (hi);(try clear hb);(try clear hk);(try clear hi);have p5: 0≤(0:Int):=az;have q5: 0 < t139.size:=(by have:(0:Int) < (t139.size:Int):=of_decide_eq_true cj;omega);have BF:∀ h: 0 < t139.size,((t139[0]'h).toNat:Int)=bt t139 0:=vD t139 0;clear p5;have qi5:(0 < (t139.size:Int))=True:=eq_true (of_decide_eq_true cj);replace q5:=eq_true q5;have p11: 0≤((ji8):Int):=of_decide_eq_true cj;have q11:(ji8) < (t139.size:Int):=of_decide_eq_true cj;have TV:=vD t139 (ji8);replace p11:=eq_true p11;replace q11:=eq_true q11))
   go_ret
   exact ⟨by rfl,sJ,aJ,kr⟩
 ·replace c3:=Bool.eq_false_iff.mpr c3
  subst c3
  rw [if_neg (show ¬ (false=true) by decide)] at H
  simp only [Option.some.injEq,Prod.mk.injEq] at H
  obtain ⟨rfl,rfl,rfl⟩:=H
  go_enter Tryz.func138,Tryz.ntmps138
  go_wp2_with (((with_reducible refine bK (f:=180) rfl ?_);refine dB (some 7) rfl rfl Tryz.func180 aq rfl #[.pointer (some ⟨g,0,none⟩),.func (.func 181) #[] #[]] rfl dK ?_;(with_reducible refine (aQ.calls k g jY gZ t139 false t141 t142 w0 _ ?bn ?bN A2.out).mono ?_);(case bn=>repeat ((with_reducible exact rB.out)));(case bN=>repeat ((with_reducible exact HB.out)));rintro e kI ⟨rfl,hi,hb,hk⟩;refine ⟨_,rfl,?_⟩;replace HK:=ah.mk (dF.trans kr hk (.inl rfl));replace HB:=ah.mk (hb);replace rB:=ah.mk (hi);(try clear hb);(try clear hk);(try clear hi)))
  go_ret
  exact ⟨by rfl,sJ,aJ,kr⟩
end Go.Proofs.YtbjjaaodfbjkfaaGreatDoor.mU
