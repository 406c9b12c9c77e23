import Derived.Test.YtbjjaaodfbjkfaaGreatDoorESlim
import Derived.Test.YtbjjaaodfbjkfaaGreatDoorQQux1
set_option maxHeartbeats 8000000
set_option maxRecDepth 100000
namespace Go.Proofs.YtbjjaaodfbjkfaaGreatDoor.qb
open Go.RowKit Go.Proofs.YtbjjaaodfbjkfaaGreatDoor.xI Go.Proofs.aj.bQ Go.Proofs.aj.dX Go.Proofs.aj.dJ
attribute [local go_sem] jT jU lF lG iX iY jV jW
set_option linter.unusedVariables false
set_option linter.unusedSimpArgs false
attribute [local go_sem high] ab7
def eB.f (bB:Int) (b7:Bool) (dD:List ByteArray) (bM:ByteArray) (bS:ByteArray) (cr:Bool) (cw:List (iN)) (dI:List Int) (cx:Int):Option (Bool):=if bB=0 then (if cx=0 then (if b7=true then (some false) else (if (dD.length:Int)=0 then (if (bM.toList == ([]:List UInt8) && (bS.toList == ([]:List UInt8) && (!cr)))=true then (some ((wrap64 ((cw.length:Int) + (dI.length:Int))) == 0)) else (some false)) else (some false))) else (some false)) else (some false)
theorem eB.calls (bB:Int) (b7:Bool) (fC:Option Addr) (fD:Nat) (dD:List ByteArray) (bM:ByteArray) (bS:ByteArray) (cr:Bool) (dL:Option Addr) (dM:Nat) (cw:List (iN)) (fE:Option Addr) (fF:Nat) (dI:List Int) (cx:Int) (r:Bool) (w:World) (wG:Kd.C Kd.string w fC dD.length dD) (wH:dD.length≤fD) (rG:Kd.C mV w dL cw.length cw) (sH:cw.length≤dM) (wI:Kd.C (Kd.int .u8) w fE dI.length dI) (wJ:dI.length≤fF) (h:eB.f bB b7 dD bM bS cr cw dI cx=some r):
 Calls Tryz.prog 63 #[.agg #[.int .i64 bB,.bool b7,.slice fC dD.length fD,.string bM,.string bS,.bool cr,.slice dL cw.length dM,.slice fE dI.length fF,.int .i64 cx]] w fun e w'=>e= .returned (.bool r)∧Below w.heap.size w w':=by
 have Dg:=Tryz.underlying34
 have Q3:=Tryz.underlying29
 have sL:=ah.mk wG
 have sM:=ah.mk wH
 clear wG wH
 have sN:=ah.mk rG
 have sO:=ah.mk sH
 clear rG sH
 have Sa:=ah.mk wI
 have Sb:=ah.mk wJ
 clear wI wJ
 have HB:=ah.mk (Below.refl w.heap.size w)
 have H:(if bB=0 then (if cx=0 then (if b7=true then (some false) else (if (dD.length:Int)=0 then (if (bM.toList == ([]:List UInt8) && (bS.toList == ([]:List UInt8) && (!cr)))=true then (some ((wrap64 ((cw.length:Int) + (dI.length:Int))) == 0)) else (some false)) else (some false))) else (some false)) else (some false))=some r:=h
 clear h
 by_cases c2:bB=0
 ·rw [if_pos c2] at H
  have yu:=beq_iff_eq.mpr c2
  have Pk:=bne_eq_false_iff_eq.mpr c2
  clear c2
  by_cases c3:cx=0
  ·rw [if_pos c3] at H
   have pF:=beq_iff_eq.mpr c3
   have De:=bne_eq_false_iff_eq.mpr c3
   clear c3
   by_cases c4:b7=true
   ·subst c4
    rw [if_pos rfl] at H
    obtain rfl:=Option.some.inj H
    go_enter Tryz.func63,Tryz.ntmps63
    go_wp2_with (((with_reducible refine bI (N:=1) rfl ?_);(try (refine bT (by rfl) ?_;dsimp only));refine bR ?hg (N:=1) ?hd (cs:=#[.int .i64 bB,.bool true,.slice fC dD.length fD,.string bM,.string bS,.bool cr,.slice dL cw.length dM,.slice fE dI.length fF,.int .i64 cx]) (t:=34) ?hr ?_;(case hd=>rfl);(case hg=>rfl);(case hr=>(go_simp;done));intro eo hg w5 b9 hb;have cH:=ah.mk (b9);have Ir:=ah.mk ((bZ:w.heap.size≤eo));have Iu:=ah.mk ((bZ:w.heap.size≤eo));replace HB:=ah.mk (aA aD hb);clear hb b9 hg;have aB1:w5.cell? ⟨eo,0,none⟩=some (.int .i64 bB):=(af cH.out 0).trans rfl;have aB2:w5.cell? ⟨eo,1,none⟩=some (.bool true):=(af cH.out 1).trans rfl;have aB3:w5.cell? ⟨eo,2,none⟩=some (.slice fC dD.length fD):=(af cH.out 2).trans rfl;have aB4:w5.cell? ⟨eo,3,none⟩=some (.string bM):=(af cH.out 3).trans rfl;have aB5:w5.cell? ⟨eo,4,none⟩=some (.string bS):=(af cH.out 4).trans rfl;have aB6:w5.cell? ⟨eo,5,none⟩=some (.bool cr):=(af cH.out 5).trans rfl;have aB7:w5.cell? ⟨eo,6,none⟩=some (.slice dL cw.length dM):=(af cH.out 6).trans rfl;have aB8:w5.cell? ⟨eo,7,none⟩=some (.slice fE dI.length fF):=(af cH.out 7).trans rfl;have aB9:w5.cell? ⟨eo,8,none⟩=some (.int .i64 cx):=(af cH.out 8).trans rfl;have aCa:=aa cH.out 0;have aCb:=aa cH.out 1;have aCc:=aa cH.out 2;have aCd:=aa cH.out 3;have aCe:=aa cH.out 4;have aCf:=aa cH.out 5;have aCg:=aa cH.out 6;have aCh:=aa cH.out 7;have aCi:=aa cH.out 8))
    go_ret
    exact ⟨by rfl,aD⟩
   ·replace c4:=Bool.eq_false_iff.mpr c4
    subst c4
    rw [if_neg (show ¬ (false=true) by decide)] at H
    by_cases c7:(dD.length:Int)=0
    ·rw [if_pos c7] at H
     have Q8:=beq_iff_eq.mpr c7
     have ajd:=bne_eq_false_iff_eq.mpr c7
     clear c7
     by_cases c8:(bM.toList == ([]:List UInt8) && (bS.toList == ([]:List UInt8) && (!cr)))=true
     ·rw [if_pos c8] at H
      obtain ⟨c8f,c8g,c8h⟩:bM.toList= []∧bS.toList= []∧cr=false:=by simpa using c8
      have Cl:(bM.toList == ([]:List UInt8) && (bS.toList == ([]:List UInt8) && (!cr)))=true:=c8
      (try (have Pd:decide (bM.toList=([]:List UInt8) && (bS.toList == ([]:List UInt8) && (!cr)))=true:=by simpa using c8))
      (try (have QX:(bM.toList == ([]:List UInt8) && (bS.toList == ([]:List UInt8) && (!cr)))=true:=by simpa using c8))
      clear c8
      obtain rfl:=Option.some.inj H
      go_enter Tryz.func63,Tryz.ntmps63
      go_wp2_with (((with_reducible refine bI (N:=1) rfl ?_);(try (refine bT (by rfl) ?_;dsimp only));refine bR ?hg (N:=1) ?hd (cs:=#[.int .i64 bB,.bool false,.slice fC dD.length fD,.string bM,.string bS,.bool cr,.slice dL cw.length dM,.slice fE dI.length fF,.int .i64 cx]) (t:=34) ?hr ?_;(case hd=>rfl);(case hg=>rfl);(case hr=>(go_simp;done));intro eo hg w9 b9 hb;have cH:=ah.mk (b9);have Ir:=ah.mk ((bZ:w.heap.size≤eo));have Iu:=ah.mk ((bZ:w.heap.size≤eo));replace HB:=ah.mk (aA aD hb);clear hb b9 hg;have NI:w9.cell? ⟨eo,0,none⟩=some (.int .i64 bB):=(af cH.out 0).trans rfl;have NJ:w9.cell? ⟨eo,1,none⟩=some (.bool false):=(af cH.out 1).trans rfl;have Zu:w9.cell? ⟨eo,2,none⟩=some (.slice fC dD.length fD):=(af cH.out 2).trans rfl;have Zv:w9.cell? ⟨eo,3,none⟩=some (.string bM):=(af cH.out 3).trans rfl;have Zw:w9.cell? ⟨eo,4,none⟩=some (.string bS):=(af cH.out 4).trans rfl;have auI:w9.cell? ⟨eo,5,none⟩=some (.bool cr):=(af cH.out 5).trans rfl;have auJ:w9.cell? ⟨eo,6,none⟩=some (.slice dL cw.length dM):=(af cH.out 6).trans rfl;have auK:w9.cell? ⟨eo,7,none⟩=some (.slice fE dI.length fF):=(af cH.out 7).trans rfl;have auL:w9.cell? ⟨eo,8,none⟩=some (.int .i64 cx):=(af cH.out 8).trans rfl;have NK:=aa cH.out 0;have NL:=aa cH.out 1;have Zx:=aa cH.out 2;have Zy:=aa cH.out 3;have Zz:=aa cH.out 4;have auM:=aa cH.out 5;have auN:=aa cH.out 6;have auO:=aa cH.out 7;have auP:=aa cH.out 8))
      go_ret
      exact ⟨by rfl,aD⟩
     ·rw [if_neg c8] at H
      have c8e:(bM.toList= []∧bS.toList= []∧cr=false)=False:=eq_false (fun ⟨h1_,ZA,h3_⟩=>c8 (by simp [h1_,ZA,h3_]))
      have Cl:(bM.toList == ([]:List UInt8) && (bS.toList == ([]:List UInt8) && (!cr)))=false:=by simpa using c8
      (try (have Pd:decide (bM.toList=([]:List UInt8) && (bS.toList == ([]:List UInt8) && (!cr)))=false:=by simpa using c8))
      (try (have QX:(bM.toList == ([]:List UInt8) && (bS.toList == ([]:List UInt8) && (!cr)))=false:=by simpa using c8))
      (try (have ac9: ¬ (bM.toList=([]:List UInt8) && (bS.toList == ([]:List UInt8) && (!cr))):=by simpa using c8))
      clear c8
      obtain rfl:=Option.some.inj H
      go_enter Tryz.func63,Tryz.ntmps63
      go_wp2_with (((with_reducible refine bI (N:=1) rfl ?_);(try (refine bT (by rfl) ?_;dsimp only));refine bR ?hg (N:=1) ?hd (cs:=#[.int .i64 bB,.bool false,.slice fC dD.length fD,.string bM,.string bS,.bool cr,.slice dL cw.length dM,.slice fE dI.length fF,.int .i64 cx]) (t:=34) ?hr ?_;(case hd=>rfl);(case hg=>rfl);(case hr=>(go_simp;done));intro eo hg Bp b9 hb;have cH:=ah.mk (b9);have Ir:=ah.mk ((bZ:w.heap.size≤eo));have Iu:=ah.mk ((bZ:w.heap.size≤eo));replace HB:=ah.mk (aA aD hb);clear hb b9 hg;have xW:Bp.cell? ⟨eo,0,none⟩=some (.int .i64 bB):=(af cH.out 0).trans rfl;have xX:Bp.cell? ⟨eo,1,none⟩=some (.bool false):=(af cH.out 1).trans rfl;have AA:Bp.cell? ⟨eo,2,none⟩=some (.slice fC dD.length fD):=(af cH.out 2).trans rfl;have EF:Bp.cell? ⟨eo,3,none⟩=some (.string bM):=(af cH.out 3).trans rfl;have EG:Bp.cell? ⟨eo,4,none⟩=some (.string bS):=(af cH.out 4).trans rfl;have EH:Bp.cell? ⟨eo,5,none⟩=some (.bool cr):=(af cH.out 5).trans rfl;have EI:Bp.cell? ⟨eo,6,none⟩=some (.slice dL cw.length dM):=(af cH.out 6).trans rfl;have EJ:Bp.cell? ⟨eo,7,none⟩=some (.slice fE dI.length fF):=(af cH.out 7).trans rfl;have EK:Bp.cell? ⟨eo,8,none⟩=some (.int .i64 cx):=(af cH.out 8).trans rfl;have xY:=aa cH.out 0;have xZ:=aa cH.out 1;have AB:=aa cH.out 2;have EL:=aa cH.out 3;have EM:=aa cH.out 4;have EN:=aa cH.out 5;have EO:=aa cH.out 6;have EP:=aa cH.out 7;have ER:=aa cH.out 8))
      go_ret
      exact ⟨by rfl,aD⟩
    ·rw [if_neg c7] at H
     have Q8:=beq_eq_false_iff_ne.mpr c7
     have ajd:=bne_iff_ne.mpr c7
     have aJw: ¬ (dD= []):=fun h_ =>c7 (by rw [h_];rfl)
     obtain rfl:=Option.some.inj H
     go_enter Tryz.func63,Tryz.ntmps63
     go_wp2_with (((with_reducible refine bI (N:=1) rfl ?_);(try (refine bT (by rfl) ?_;dsimp only));refine bR ?hg (N:=1) ?hd (cs:=#[.int .i64 bB,.bool false,.slice fC dD.length fD,.string bM,.string bS,.bool cr,.slice dL cw.length dM,.slice fE dI.length fF,.int .i64 cx]) (t:=34) ?hr ?_;(case hd=>rfl);(case hg=>rfl);(case hr=>(go_simp;done));intro eo hg rX b9 hb;have cH:=ah.mk (b9);have Ir:=ah.mk ((bZ:w.heap.size≤eo));have Iu:=ah.mk ((bZ:w.heap.size≤eo));replace HB:=ah.mk (aA aD hb);clear hb b9 hg;have Dm:rX.cell? ⟨eo,0,none⟩=some (.int .i64 bB):=(af cH.out 0).trans rfl;have Dn:rX.cell? ⟨eo,1,none⟩=some (.bool false):=(af cH.out 1).trans rfl;have Dp:rX.cell? ⟨eo,2,none⟩=some (.slice fC dD.length fD):=(af cH.out 2).trans rfl;have Dq:rX.cell? ⟨eo,3,none⟩=some (.string bM):=(af cH.out 3).trans rfl;have Dr:rX.cell? ⟨eo,4,none⟩=some (.string bS):=(af cH.out 4).trans rfl;have Ds:rX.cell? ⟨eo,5,none⟩=some (.bool cr):=(af cH.out 5).trans rfl;have Lm:rX.cell? ⟨eo,6,none⟩=some (.slice dL cw.length dM):=(af cH.out 6).trans rfl;have Lp:rX.cell? ⟨eo,7,none⟩=some (.slice fE dI.length fF):=(af cH.out 7).trans rfl;have Lq:rX.cell? ⟨eo,8,none⟩=some (.int .i64 cx):=(af cH.out 8).trans rfl;have Dt:=aa cH.out 0;have Du:=aa cH.out 1;have Dv:=aa cH.out 2;have Dw:=aa cH.out 3;have Dx:=aa cH.out 4;have Dy:=aa cH.out 5;have Lr:=aa cH.out 6;have Ls:=aa cH.out 7;have Lt:=aa cH.out 8))
     go_ret
     exact ⟨by rfl,aD⟩
  ·rw [if_neg c3] at H
   have pF:=beq_eq_false_iff_ne.mpr c3
   have De:=bne_iff_ne.mpr c3
   obtain rfl:=Option.some.inj H
   go_enter Tryz.func63,Tryz.ntmps63
   go_wp2_with (((with_reducible refine bI (N:=1) rfl ?_);(try (refine bT (by rfl) ?_;dsimp only));refine bR ?hg (N:=1) ?hd (cs:=#[.int .i64 bB,.bool b7,.slice fC dD.length fD,.string bM,.string bS,.bool cr,.slice dL cw.length dM,.slice fE dI.length fF,.int .i64 cx]) (t:=34) ?hr ?_;(case hd=>rfl);(case hg=>rfl);(case hr=>(go_simp;done));intro eo hg uC b9 hb;have cH:=ah.mk (b9);have Ir:=ah.mk ((bZ:w.heap.size≤eo));have Iu:=ah.mk ((bZ:w.heap.size≤eo));replace HB:=ah.mk (aA aD hb);clear hb b9 hg;have FJ:uC.cell? ⟨eo,0,none⟩=some (.int .i64 bB):=(af cH.out 0).trans rfl;have FL:uC.cell? ⟨eo,1,none⟩=some (.bool b7):=(af cH.out 1).trans rfl;have FM:uC.cell? ⟨eo,2,none⟩=some (.slice fC dD.length fD):=(af cH.out 2).trans rfl;have FN:uC.cell? ⟨eo,3,none⟩=some (.string bM):=(af cH.out 3).trans rfl;have FO:uC.cell? ⟨eo,4,none⟩=some (.string bS):=(af cH.out 4).trans rfl;have NW:uC.cell? ⟨eo,5,none⟩=some (.bool cr):=(af cH.out 5).trans rfl;have ZB:uC.cell? ⟨eo,6,none⟩=some (.slice dL cw.length dM):=(af cH.out 6).trans rfl;have ZC:uC.cell? ⟨eo,7,none⟩=some (.slice fE dI.length fF):=(af cH.out 7).trans rfl;have ZE:uC.cell? ⟨eo,8,none⟩=some (.int .i64 cx):=(af cH.out 8).trans rfl;have FP:=aa cH.out 0;have FQ:=aa cH.out 1;have FT:=aa cH.out 2;have FU:=aa cH.out 3;have FV:=aa cH.out 4;have NY:=aa cH.out 5;have ZF:=aa cH.out 6;have ZG:=aa cH.out 7;have ZH:=aa cH.out 8))
   go_ret
   exact ⟨by rfl,aD⟩
 ·rw [if_neg c2] at H
  have yu:=beq_eq_false_iff_ne.mpr c2
  have Pk:=bne_iff_ne.mpr c2
  obtain rfl:=Option.some.inj H
  go_enter Tryz.func63,Tryz.ntmps63
  go_wp2_with (((with_reducible refine bI (N:=1) rfl ?_);(try (refine bT (by rfl) ?_;dsimp only));refine bR ?hg (N:=1) ?hd (cs:=#[.int .i64 bB,.bool b7,.slice fC dD.length fD,.string bM,.string bS,.bool cr,.slice dL cw.length dM,.slice fE dI.length fF,.int .i64 cx]) (t:=34) ?hr ?_;(case hd=>rfl);(case hg=>rfl);(case hr=>(go_simp;done));intro eo hg wj b9 hb;have cH:=ah.mk (b9);have Ir:=ah.mk ((bZ:w.heap.size≤eo));have Iu:=ah.mk ((bZ:w.heap.size≤eo));replace HB:=ah.mk (aA aD hb);clear hb b9 hg;have ya:wj.cell? ⟨eo,0,none⟩=some (.int .i64 bB):=(af cH.out 0).trans rfl;have yc:wj.cell? ⟨eo,1,none⟩=some (.bool b7):=(af cH.out 1).trans rfl;have yf:wj.cell? ⟨eo,2,none⟩=some (.slice fC dD.length fD):=(af cH.out 2).trans rfl;have yg:wj.cell? ⟨eo,3,none⟩=some (.string bM):=(af cH.out 3).trans rfl;have yh:wj.cell? ⟨eo,4,none⟩=some (.string bS):=(af cH.out 4).trans rfl;have AE:wj.cell? ⟨eo,5,none⟩=some (.bool cr):=(af cH.out 5).trans rfl;have ES:wj.cell? ⟨eo,6,none⟩=some (.slice dL cw.length dM):=(af cH.out 6).trans rfl;have ET:wj.cell? ⟨eo,7,none⟩=some (.slice fE dI.length fF):=(af cH.out 7).trans rfl;have EU:wj.cell? ⟨eo,8,none⟩=some (.int .i64 cx):=(af cH.out 8).trans rfl;have yj:=aa cH.out 0;have yl:=aa cH.out 1;have ym:=aa cH.out 2;have yq:=aa cH.out 3;have yt:=aa cH.out 4;have AG:=aa cH.out 5;have EW:=aa cH.out 6;have EX:=aa cH.out 7;have EY:=aa cH.out 8))
  go_ret
  exact ⟨by rfl,aD⟩
def dZ (w0 W:World) (g:Nat) (f0:ByteArray) (f1:Int):Prop:=W.heap[g]? =some (.cells #[.string f0,.int .i64 f1] 132 (0,0))∧w0.heap.size≤g
theorem dZ.grown {w0 W:World} {g:Nat} {f0:ByteArray} {f1:Int} {W1:World} {row:Option Nat} (h:dZ w0 W g f0 f1) (hw:W.grownBy W1 row) (hne:some g≠row):dZ w0 W1 g f0 f1:=by
 obtain ⟨hb,hg⟩:=h
 exact ⟨gZ hb hw hne,hg⟩
theorem dZ.kept {w0 W:World} {g:Nat} {f0:ByteArray} {f1:Int} {W1:World} {S:Nat→Prop} (h:dZ w0 W g f0 f1) (hk:Kept W W1 S) (hne: ¬ S g):dZ w0 W1 g f0 f1:=by
 obtain ⟨hb,hg⟩:=h
 exact ⟨QO hb hk hne,hg⟩
theorem dZ.below {w0 W:World} {g:Nat} {f0:ByteArray} {f1:Int} {W1:World} (h:dZ w0 W g f0 f1) (hw:Below W.heap.size W W1):dZ w0 W1 g f0 f1:=h.grown (qE hw none) cO
theorem dZ.alloc {w0 W:World} {g:Nat} {f0:ByteArray} {f1:Int} (h:dZ w0 W g f0 f1) (o:Obj):dZ w0 (W.alloc o) g f0 f1:=h.below (cW (Below.refl _ _) o)
theorem dZ.drewN {w0 W:World} {g:Nat} {f0:ByteArray} {f1:Int} (h:dZ w0 W g f0 f1) (m:Nat):dZ w0 (W.drewN m) g f0 f1:=h
theorem dZ.drew {w0 W:World} {g:Nat} {f0:ByteArray} {f1:Int} (h:dZ w0 W g f0 f1):dZ w0 W.drew g f0 f1:=h
theorem dZ.at_ {w0 W:World} {g:Nat} {f0:ByteArray} {f1:Int} {w':World} {m:Nat} (hq:W.drewN m=w') (h:dZ w0 W g f0 f1):dZ w0 w' g f0 f1:=by subst hq;exact dZ.drewN h m
theorem dZ.apart {w0 W:World} {g:Nat} {f0:ByteArray} {f1:Int} {α:Type} {d:Kd α} {e:Nat} {base:Nat} {ok:Nat→Prop} {v:Value} {xs:List α} (h:dZ w0 W g f0 f1) (ho:d.R e W base ok v xs) (ht:∀ q,q∈e :: d.E→q≠132):d.R e W base (fun k=>ok k∧k≠g) v xs:=by
 obtain ⟨hb,hg⟩:=h
 exact Kd.cj ho hb ht
theorem dZ.own_ne {w0 W:World} {g:Nat} {f0:ByteArray} {f1:Int} {α:Type} {d:Kd α} {e:Nat} {base:Nat} {ok:Nat→Prop} {v:Value} {xs:List α} (h:dZ w0 W g f0 f1) (ho:d.R e W base ok v xs) (ht:e≠132):some g≠v.ownBlock:=by
 obtain ⟨hb,hg⟩:=h
 exact Kd.zu ho hb ht
theorem dZ.ge {w0 W:World} {g:Nat} {f0:ByteArray} {f1:Int} (h:dZ w0 W g f0 f1):w0.heap.size≤g:=by
 obtain ⟨hb,hg⟩:=h
 exact hg
theorem jY {W:World} {g:Nat} {f0:ByteArray} {f1:Int} (h:W.heap[g]? =some (.cells #[.string f0,.int .i64 f1] 132 (0,0))):W.cell? ⟨g,0,none⟩=some (.string f0):=(af h 0).trans rfl
theorem jZ {W:World} {g:Nat} {f0:ByteArray} {f1:Int} (h:W.heap[g]? =some (.cells #[.string f0,.int .i64 f1] 132 (0,0))):W.cell? ⟨g,1,none⟩=some (.int .i64 f1):=(af h 1).trans rfl
theorem dZ.agy {w0 W:World} {g:Nat} {f0:ByteArray} {f1:Int} (h:dZ w0 W g f0 f1) (x:Int):dZ w0 (W.setCell ⟨g,1,none⟩ (.int .i64 x)) g f0 x:=by
 obtain ⟨hb,hg⟩:=h
 exact ⟨by simpa using C4 hb 1 (.int .i64 x),hg⟩
def kV.f (jH:ByteArray) (iw:Int) (a1:Int):Option (Bool×ByteArray×Int):=if iw < (jH.size:Int) then (if 0≤iw then (if (bt jH iw)=a1 then (some (true,jH,wrap64 (iw + 1))) else (some (false,jH,iw))) else (none)) else (some (false,jH,iw))
theorem kV.calls (g:Nat) (jH:ByteArray) (iw:Int) (a1:Int) (r1:Bool) (r2:ByteArray) (r3:Int) (w0 w:World) (hI:dZ w0 w g jH iw) (hB:Below w0.heap.size w0 w) (h:kV.f jH iw a1=some (r1,r2,r3)):
 Calls Tryz.prog 179 #[.pointer (some ⟨g,0,none⟩),.int .u8 a1] w fun e w'=>e= .returned (.bool r1)∧dZ w0 w' g r2 r3∧Below w0.heap.size w0 w'∧dW w w' g none:=by
 have rz:=ah.mk hI
 have HK:=ah.mk (dW.refl w g none)
 have HL:=ah.mk hB.size
 clear hI
 have HW0:=ah.mk hB.size
 have HB:=ah.mk hB
 clear hB
 have H:(if iw < (jH.size:Int) then (if 0≤iw then (if (bt jH iw)=a1 then (some (true,jH,wrap64 (iw + 1))) else (some (false,jH,iw))) else (none)) else (some (false,jH,iw)))=some (r1,r2,r3):=h
 clear h
 by_cases c3:iw < (jH.size:Int)
 ·rw [if_pos c3] at H
  have pF:=decide_eq_true c3
  clear c3
  obtain ⟨c4,H⟩:=ld H
  have oU:=decide_eq_true c4
  clear c4
  by_cases c6:(bt jH iw)=a1
  ·rw [if_pos c6] at H
   have Cm:=beq_iff_eq.mpr c6
   have adY:=bne_eq_false_iff_eq.mpr c6
   clear c6
   simp only [Option.some.injEq,Prod.mk.injEq] at H
   obtain ⟨rfl,rfl,rfl⟩:=H
   obtain ⟨Bq,adZ⟩:=rz.out
   have FW:=jY Bq
   have FX:=jZ Bq
   have FY:=aa Bq 0
   have FZ:=aa Bq 1
   clear Bq adZ
   have p5: 0≤(iw:Int):=of_decide_eq_true cP
   have q5:iw < (jH.size:Int):=of_decide_eq_true cP
   have Ra:=uo jH iw
   replace p5:=eq_true p5
   replace q5:=eq_true q5
   go_enter Tryz.func179,Tryz.ntmps179
   go_wp2
   repeat (go_quiet (fail);try go_wp2)
   go_ret
   exact ⟨by rfl,KP,KM,KR⟩
  ·rw [if_neg c6] at H
   have Cm:=beq_eq_false_iff_ne.mpr c6
   have adY:=bne_iff_ne.mpr c6
   simp only [Option.some.injEq,Prod.mk.injEq] at H
   obtain ⟨rfl,rfl,rfl⟩:=H
   obtain ⟨Br,ad0⟩:=rz.out
   have Dh:=jY Br
   have Di:=jZ Br
   have Dj:=aa Br 0
   have Dk:=aa Br 1
   clear Br ad0
   have p5: 0≤(iw:Int):=of_decide_eq_true cP
   have q5:iw < (jH.size:Int):=of_decide_eq_true cP
   have Ra:=uo jH iw
   replace p5:=eq_true p5
   replace q5:=eq_true q5
   go_enter Tryz.func179,Tryz.ntmps179
   go_wp2
   repeat (go_quiet (fail);try go_wp2)
   go_ret
   exact ⟨by rfl,CS,dG,CU⟩
 ·rw [if_neg c3] at H
  have pF:=decide_eq_false c3
  clear c3
  simp only [Option.some.injEq,Prod.mk.injEq] at H
  obtain ⟨rfl,rfl,rfl⟩:=H
  obtain ⟨Bt,ad1⟩:=rz.out
  have Fm:=jY Bt
  have Fp:=jZ Bt
  have Fq:=aa Bt 0
  have Fu:=aa Bt 1
  clear Bt ad1
  go_enter Tryz.func179,Tryz.ntmps179
  go_wp2
  repeat (go_quiet (fail);try go_wp2)
  go_ret
  exact ⟨by rfl,CS,dG,CU⟩
def mJ.f (a0:Int):Option (Bool):=if a0≥97 then (if a0≤122 then (some true) else (if a0≥65 then (some (decide (a0≤90))) else (some false))) else (if a0≥65 then (some (decide (a0≤90))) else (some false))
theorem mJ.calls (a0:Int) (r:Bool) (w:World) (h:mJ.f a0=some r):
 Calls Tryz.prog 182 #[.int .u8 a0] w fun e w'=>e= .returned (.bool r)∧gH w w':=by
 have H:(if a0≥97 then (if a0≤122 then (some true) else (if a0≥65 then (some (decide (a0≤90))) else (some false))) else (if a0≥65 then (some (decide (a0≤90))) else (some false)))=some r:=h
 clear h
 by_cases c2:a0≥97
 ·rw [if_pos c2] at H
  have yu:decide (97≤a0)=true:=decide_eq_true c2
  clear c2
  by_cases c3:a0≤122
  ·rw [if_pos c3] at H
   have pF:=decide_eq_true c3
   clear c3
   obtain rfl:=Option.some.inj H
   go_enter Tryz.func182,Tryz.ntmps182
   go_wp2
   go_ret
   exact ⟨by rfl,mE⟩
  ·rw [if_neg c3] at H
   have pF:=decide_eq_false c3
   clear c3
   by_cases c4:a0≥65
   ·rw [if_pos c4] at H
    have oU:decide (65≤a0)=true:=decide_eq_true c4
    clear c4
    obtain rfl:=Option.some.inj H
    go_enter Tryz.func182,Tryz.ntmps182
    go_wp2
    go_ret
    exact ⟨by rfl,mE⟩
   ·rw [if_neg c4] at H
    have oU:decide (65≤a0)=false:=decide_eq_false c4
    clear c4
    obtain rfl:=Option.some.inj H
    go_enter Tryz.func182,Tryz.ntmps182
    go_wp2
    go_ret
    exact ⟨by rfl,mE⟩
 ·rw [if_neg c2] at H
  have yu:decide (97≤a0)=false:=decide_eq_false c2
  clear c2
  by_cases c5:a0≥65
  ·rw [if_pos c5] at H
   have uA:decide (65≤a0)=true:=decide_eq_true c5
   clear c5
   obtain rfl:=Option.some.inj H
   go_enter Tryz.func182,Tryz.ntmps182
   go_wp2
   go_ret
   exact ⟨by rfl,mE⟩
  ·rw [if_neg c5] at H
   have uA:decide (65≤a0)=false:=decide_eq_false c5
   clear c5
   obtain rfl:=Option.some.inj H
   go_enter Tryz.func182,Tryz.ntmps182
   go_wp2
   go_ret
   exact ⟨by rfl,mE⟩
def pI.f (a0:Int):Option (Bool):=if a0≥48 then (some (decide (a0≤57))) else (some false)
theorem pI.calls (a0:Int) (r:Bool) (w:World) (h:pI.f a0=some r):
 Calls Tryz.prog 183 #[.int .u8 a0] w fun e w'=>e= .returned (.bool r)∧gH w w':=by
 have H:(if a0≥48 then (some (decide (a0≤57))) else (some false))=some r:=h
 clear h
 by_cases c2:a0≥48
 ·rw [if_pos c2] at H
  have yu:decide (48≤a0)=true:=decide_eq_true c2
  clear c2
  obtain rfl:=Option.some.inj H
  go_enter Tryz.func183,Tryz.ntmps183
  go_wp2
  go_ret
  exact ⟨by rfl,mE⟩
 ·rw [if_neg c2] at H
  have yu:decide (48≤a0)=false:=decide_eq_false c2
  clear c2
  obtain rfl:=Option.some.inj H
  go_enter Tryz.func183,Tryz.ntmps183
  go_wp2
  go_ret
  exact ⟨by rfl,mE⟩
def jx.f (a0:Int):Option (Bool):=(mJ.f a0).bind fun t153=>(if t153=true then (some true) else ((pI.f a0).bind fun t154=>(if t154=true then (some true) else (some (a0 == 45)))))
theorem jx.calls (a0:Int) (r:Bool) (w:World) (h:jx.f a0=some r):
 Calls Tryz.prog 181 #[.int .u8 a0] w fun e w'=>e= .returned (.bool r)∧gH w w':=by
 have H:((mJ.f a0).bind fun t153=>(if t153=true then (some true) else ((pI.f a0).bind fun t154=>(if t154=true then (some true) else (some (a0 == 45))))))=some r:=h
 clear h
 obtain ⟨t153,A2,H⟩:=bd_ H
 by_cases c3:t153=true
 ·subst c3
  rw [if_pos rfl] at H
  obtain rfl:=Option.some.inj H
  go_enter Tryz.func181,Tryz.ntmps181
  go_wp2_with (((with_reducible refine bq (f:=182) rfl ?_);refine cK (some 4) rfl rfl Tryz.func182 aR rfl #[.int .u8 a0] rfl dc ?_;(with_reducible refine (mJ.calls a0 true _ A2.out).mono ?_);rintro e w' ⟨rfl,⟨nd,rfl⟩⟩;refine ⟨_,rfl,?_⟩))
  go_ret
  exact ⟨by rfl,jy⟩
 ·replace c3:=Bool.eq_false_iff.mpr c3
  subst c3
  rw [if_neg (show ¬ (false=true) by decide)] at H
  obtain ⟨t154,A4,H⟩:=bd_ H
  by_cases c5:t154=true
  ·subst c5
   rw [if_pos rfl] at H
   obtain rfl:=Option.some.inj H
   go_enter Tryz.func181,Tryz.ntmps181
   go_wp2_with (first|((with_reducible refine bq (f:=182) rfl ?_);refine cK (some 4) rfl rfl Tryz.func182 aR rfl #[.int .u8 a0] rfl dc ?_;(with_reducible refine (mJ.calls a0 false _ A2.out).mono ?_);rintro e w' ⟨rfl,⟨nd,rfl⟩⟩;refine ⟨_,rfl,?_⟩)|(go_at_call 183;(with_reducible refine (pI.calls a0 true _ A4.out).mono ?_);rintro e w' ⟨rfl,⟨nd,rfl⟩⟩))
   go_ret
   exact ⟨by rfl,jy⟩
  ·replace c5:=Bool.eq_false_iff.mpr c5
   subst c5
   rw [if_neg (show ¬ (false=true) by decide)] at H
   obtain rfl:=Option.some.inj H
   go_enter Tryz.func181,Tryz.ntmps181
   go_wp2_with (first|((with_reducible refine bq (f:=182) rfl ?_);refine cK (some 4) rfl rfl Tryz.func182 aR rfl #[.int .u8 a0] rfl dc ?_;(with_reducible refine (mJ.calls a0 false _ A2.out).mono ?_);rintro e w' ⟨rfl,⟨nd,rfl⟩⟩;refine ⟨_,rfl,?_⟩)|(go_at_call 183;(with_reducible refine (pI.calls a0 false _ A4.out).mono ?_);rintro e w' ⟨rfl,⟨nd,rfl⟩⟩))
   go_ret
   exact ⟨by rfl,jy⟩
def aT.l0:Nat→Int→ByteArray→Int→Option (ByteArray×Bool×ByteArray×Int)
 | 0,_,_,_ =>none
 |k + 1,x6,u7,qh=>if qh < (u7.size:Int) then (if 0≤qh then ((jx.f (bt u7 qh)).bind fun t155=>(if t155=true then (aT.l0 k x6 u7 (wrap64 (qh + 1))) else (if 0≤x6 then (if x6≤qh then (if qh≤(u7.size:Int) then (some (u7.extract (x6:Int).toNat (qh:Int).toNat,decide (qh > x6),u7,qh)) else (none)) else (none)) else (none)))) else (none)) else (if 0≤x6 then (if x6≤qh then (if qh≤(u7.size:Int) then (some (u7.extract (x6:Int).toNat (qh:Int).toNat,decide (qh > x6),u7,qh)) else (none)) else (none)) else (none))
def aT.f (k:Nat) (jH:ByteArray) (iw:Int):Option (ByteArray×Bool×ByteArray×Int):=aT.l0 k iw jH iw
theorem aT.ij:∀ k,(∀ y0 y1 y2,gB (aT.l0 k y0 y1 y2) (aT.l0 (k + 1) y0 y1 y2))
 | 0=>fun _ _ _ r h=>by simp [aT.l0] at h
 |k + 1=>by
  have sG:=aT.ij k
  ·intro y0 y1 y2
   unfold aT.l0
   repeat' (with_reducible first|exact sG _ _ _|exact gB.refl _|refine gB.ite ?_ ?_|refine gB.bind ?_ (fun _ =>?_))
theorem aT.mono:∀ a0 a1 k,gB (aT.f k a0 a1) (aT.f (k + 1) a0 a1):=by
 intro a0 a1 k
 have sG:=aT.ij k
 unfold aT.f
 repeat' (with_reducible exact sG _ _ _)
theorem aT.calls (k:Nat) (g:Nat) (jH:ByteArray) (iw:Int) (r1:ByteArray) (r2:Bool) (r3:ByteArray) (r4:Int) (w0 w:World) (hI:dZ w0 w g jH iw) (hB:Below w0.heap.size w0 w) (h:aT.f k jH iw=some (r1,r2,r3,r4)):
 Calls Tryz.prog 180 #[.pointer (some ⟨g,0,none⟩),.func (.func 181) #[] #[]] w fun e w'=>e= .returned (.tuple #[.string r1,.bool r2])∧dZ w0 w' g r3 r4∧Below w0.heap.size w0 w'∧dW w w' g none:=by
 have rz:=ah.mk hI
 have HK:=ah.mk (dW.refl w g none)
 have HL:=ah.mk hB.size
 clear hI
 have HW0:=ah.mk hB.size
 have HB:=ah.mk hB
 clear hB
 have H:(aT.l0 k iw jH iw)=some (r1,r2,r3,r4):=h
 clear h
 have H':=ah.mk H
 clear H
 obtain ⟨Sr,aCj⟩:=rz.out
 have RQ:=jY Sr
 have RR:=jZ Sr
 have RS:=aa Sr 0
 have RT:=aa Sr 1
 clear Sr aCj
 go_enter Tryz.func180,Tryz.ntmps180
 go_wp2
 repeat (go_quiet (fail);skip)
 go_loopg [] k (fun kq w'=>∃ (kf:ByteArray) (jo:Int),ah (aT.l0 kq iw kf jo=some (r1,r2,r3,r4))∧ah (kq≤k)∧ah (dZ w0 w' g kf jo)∧ah (dW w w' g none)∧ah (Below w0.heap.size w0 w'))
 case atStart=>exact ⟨(jH),(iw),H',⟨Nat.le_refl _⟩,⟨rU⟩,⟨lq⟩,⟨aD⟩⟩
 case round=>
  clear H'
  obtain ⟨kf,jo,HA,sw,rz,HK,HB⟩:=hrel
  cases gk with
  |zero=>exact absurd HA.out (by simp [aT.l0])
  |succ k1=>
   have H:=HA.out
   clear HA
   simp only [aT.l0] at H
   by_cases c4:jo < (kf.size:Int)
   ·rw [if_pos c4] at H
    have oU:=decide_eq_true c4
    clear c4
    obtain ⟨c5,H⟩:=ld H
    have uA:=decide_eq_true c5
    clear c5
    obtain ⟨t155,A7,H⟩:=bd_ H
    by_cases c8:t155=true
    ·subst c8
     rw [if_pos rfl] at H
     have H':=ah.mk H
     clear H
     obtain ⟨Bt,ad1⟩:=rz.out
     have Fm:=jY Bt
     have Fp:=jZ Bt
     have Fq:=aa Bt 0
     have Fu:=aa Bt 1
     clear Bt ad1
     have p6: 0≤(jo:Int):=of_decide_eq_true cP
     have q6:jo < (kf.size:Int):=of_decide_eq_true cP
     have Ub:=uo kf jo
     replace p6:=eq_true p6
     replace q6:=eq_true q6
     go_wp2_with (fail)
     repeat (go_quiet ((go_at_call 181;(with_reducible refine (jx.calls (bt kf jo) true _ A7.out).mono ?_);rintro e w' ⟨rfl,⟨nd,rfl⟩⟩;(try exact ⟨rfl,_,World.drewN_drewN _ _ _⟩)));try go_wp2_with (fail))
     go_roundg k1
     case measure=>have:=sw.out;omega
     case rel=>exact ⟨(kf),(wrap64 (jo + 1)),H',⟨lA⟩,⟨KP⟩,⟨KR⟩,⟨KM⟩⟩
    ·replace c8:=Bool.eq_false_iff.mpr c8
     subst c8
     rw [if_neg (show ¬ (false=true) by decide)] at H
     obtain ⟨c10,H⟩:=ld H
     have Bn:=eq_true c10
     have Le:=decide_eq_true c10
     clear c10
     obtain ⟨c11,H⟩:=ld H
     have xN:=eq_true c11
     have abe:=decide_eq_true c11
     clear c11
     obtain ⟨c12,H⟩:=ld H
     have CC:=eq_true c12
     have abk:=decide_eq_true c12
     clear c12
     simp only [Option.some.injEq,Prod.mk.injEq] at H
     obtain ⟨rfl,rfl,rfl,rfl⟩:=H
     obtain ⟨Iw,aje⟩:=rz.out
     have ZI:=jY Iw
     have ZJ:=jZ Iw
     have ZK:=aa Iw 0
     have ZL:=aa Iw 1
     clear Iw aje
     have p6: 0≤(jo:Int):=of_decide_eq_true cP
     have q6:jo < (kf.size:Int):=of_decide_eq_true cP
     have Ub:=uo kf jo
     replace p6:=eq_true p6
     replace q6:=eq_true q6
     go_wp2_with (fail)
     repeat (go_quiet ((go_at_call 181;(with_reducible refine (jx.calls (bt kf jo) false _ A7.out).mono ?_);rintro e w' ⟨rfl,⟨nd,rfl⟩⟩;(try exact ⟨rfl,_,World.drewN_drewN _ _ _⟩)));try go_wp2_with (fail))
     go_ret2
     exact ⟨by rfl,CS,dG,CU⟩
   ·rw [if_neg c4] at H
    have oU:=decide_eq_false c4
    clear c4
    obtain ⟨c14,H⟩:=ld H
    have aiw:=eq_true c14
    have aix:=decide_eq_true c14
    clear c14
    obtain ⟨c15,H⟩:=ld H
    have aGA:=eq_true c15
    have aGB:=decide_eq_true c15
    clear c15
    obtain ⟨c16,H⟩:=ld H
    have abu:=eq_true c16
    have aiB:=decide_eq_true c16
    clear c16
    simp only [Option.some.injEq,Prod.mk.injEq] at H
    obtain ⟨rfl,rfl,rfl,rfl⟩:=H
    obtain ⟨Ix,ajf⟩:=rz.out
    have Ut:=jY Ix
    have Uu:=jZ Ix
    have Uv:=aa Ix 0
    have Uw:=aa Ix 1
    clear Ix ajf
    go_wp2
    repeat (go_quiet (fail);try go_wp2)
    go_ret2
    exact ⟨by rfl,CS,dG,CU⟩
def eW.f (k:Nat) (jH:ByteArray) (iw:Int):Option (Bool×ByteArray×Int):=(aT.f k jH iw).bind fun kA=>(if kA.2.1=true then (if 0 < (kA.1.size:Int) then (if (bt kA.1 0)=45 then (some (false,kA.2.2.1,kA.2.2.2)) else (if 0≤(wrap64 ((kA.1.size:Int) - 1)) then (if (wrap64 ((kA.1.size:Int) - 1)) < (kA.1.size:Int) then (some (((bt kA.1 (wrap64 ((kA.1.size:Int) - 1))) != 45),kA.2.2.1,kA.2.2.2)) else (none)) else (none))) else (none)) else (some (false,kA.2.2.1,kA.2.2.2)))
theorem eW.mono:∀ a0 a1 k,gB (eW.f k a0 a1) (eW.f (k + 1) a0 a1):=by
 intro a0 a1 k
 unfold eW.f
 repeat' (with_reducible first|exact aT.mono _ _ _|exact gB.refl _|refine gB.bind ?_ (fun _ =>?_))
theorem eW.calls (k:Nat) (g:Nat) (jH:ByteArray) (iw:Int) (r1:Bool) (r2:ByteArray) (r3:Int) (w0 w:World) (hI:dZ w0 w g jH iw) (hB:Below w0.heap.size w0 w) (h:eW.f k jH iw=some (r1,r2,r3)):
 Calls Tryz.prog 138 #[.pointer (some ⟨g,0,none⟩)] w fun e w'=>e= .returned (.bool r1)∧dZ w0 w' g r2 r3∧Below w0.heap.size w0 w'∧dW w w' g none:=by
 have rz:=ah.mk hI
 have HK:=ah.mk (dW.refl w g none)
 have HL:=ah.mk hB.size
 clear hI
 have HW0:=ah.mk hB.size
 have HB:=ah.mk hB
 clear hB
 have H:((aT.f k jH iw).bind fun kA=>(if kA.2.1=true then (if 0 < (kA.1.size:Int) then (if (bt kA.1 0)=45 then (some (false,kA.2.2.1,kA.2.2.2)) else (if 0≤(wrap64 ((kA.1.size:Int) - 1)) then (if (wrap64 ((kA.1.size:Int) - 1)) < (kA.1.size:Int) then (some (((bt kA.1 (wrap64 ((kA.1.size:Int) - 1))) != 45),kA.2.2.1,kA.2.2.2)) else (none)) else (none))) else (none)) else (some (false,kA.2.2.1,kA.2.2.2))))=some (r1,r2,r3):=h
 clear h
 obtain ⟨⟨t156,t157,t158,t159⟩,A2,H⟩:=bd_ H
 (try dsimp only at H)
 by_cases c3:t157=true
 ·subst c3
  rw [if_pos rfl] at H
  obtain ⟨c4,H⟩:=ld H
  have oU:=decide_eq_true c4
  have Bl:decide (0 < t156.size)=true:=decide_eq_true ay
  clear c4
  by_cases c6:(bt t156 0)=45
  ·rw [if_pos c6] at H
   have Cm:=beq_iff_eq.mpr c6
   have adY:=bne_eq_false_iff_eq.mpr c6
   clear c6
   simp only [Option.some.injEq,Prod.mk.injEq] at H
   obtain ⟨rfl,rfl,rfl⟩:=H
   go_enter Tryz.func138,Tryz.ntmps138
   go_wp2_with (((with_reducible refine bq (f:=180) rfl ?_);refine cK (some 7) rfl rfl Tryz.func180 aR rfl #[.pointer (some ⟨g,0,none⟩),.func (.func 181) #[] #[]] rfl dc ?_;(with_reducible refine (aT.calls k g jH iw t156 true t158 t159 w0 _ ?aX ?bF A2.out).mono ?_);(case aX=>repeat ((with_reducible exact rz.out)));(case bF=>repeat ((with_reducible exact HB.out)));rintro e w7 ⟨rfl,hi,hb,hk⟩;refine ⟨_,rfl,?_⟩;replace HK:=ah.mk (dW.trans lq hk (.inl rfl));replace HB:=ah.mk (hb);replace rz:=ah.mk (hi);(try clear hb);(try clear hk);(try clear hi);have p5: 0≤(0:Int):=ay;have q5: 0 < t156.size:=(by have:(0:Int) < (t156.size:Int):=of_decide_eq_true cP;omega);have Ra:∀ h: 0 < t156.size,((t156[0]'h).toNat:Int)=bt t156 0:=uo t156 0;clear p5;have qi5:(0 < (t156.size:Int))=True:=eq_true (of_decide_eq_true cP);replace q5:=eq_true q5))
   go_ret
   exact ⟨by rfl,rU,aD,lq⟩
  ·rw [if_neg c6] at H
   have Cm:=beq_eq_false_iff_ne.mpr c6
   have adY:=bne_iff_ne.mpr c6
   obtain ⟨ji8,ajg⟩:∃ j_:Int,(wrap64 ((t156.size:Int) - 1))=j_ :=⟨_,rfl⟩
   (rw [ajg] at H)
   have aGC:(IntKind.i64.wrap ((t156.size:Int) - 1))=ji8:=(fU _).trans ajg
   obtain ⟨c9,H⟩:=ld H
   have Us:=decide_eq_true c9
   clear c9
   obtain ⟨c10,H⟩:=ld H
   have Bn:=decide_eq_true c10
   clear c10
   simp only [Option.some.injEq,Prod.mk.injEq] at H
   obtain ⟨rfl,rfl,rfl⟩:=H
   go_enter Tryz.func138,Tryz.ntmps138
   go_wp2_with (((with_reducible refine bq (f:=180) rfl ?_);refine cK (some 7) rfl rfl Tryz.func180 aR rfl #[.pointer (some ⟨g,0,none⟩),.func (.func 181) #[] #[]] rfl dc ?_;(with_reducible refine (aT.calls k g jH iw t156 true t158 t159 w0 _ ?aX ?bF A2.out).mono ?_);(case aX=>repeat ((with_reducible exact rz.out)));(case bF=>repeat ((with_reducible exact HB.out)));rintro e w12 ⟨rfl,hi,hb,hk⟩;refine ⟨_,rfl,?_⟩;replace HK:=ah.mk (dW.trans lq hk (.inl rfl));replace HB:=ah.mk (hb);replace rz:=ah.mk (hi);(try clear hb);(try clear hk);(try clear hi);have p5: 0≤(0:Int):=ay;have q5: 0 < t156.size:=(by have:(0:Int) < (t156.size:Int):=of_decide_eq_true cP;omega);have Ra:∀ h: 0 < t156.size,((t156[0]'h).toNat:Int)=bt t156 0:=uo t156 0;clear p5;have qi5:(0 < (t156.size:Int))=True:=eq_true (of_decide_eq_true cP);replace q5:=eq_true q5;have p11: 0≤((ji8):Int):=of_decide_eq_true cP;have q11:(ji8) < (t156.size:Int):=of_decide_eq_true cP;have aJx:=uo t156 (ji8);replace p11:=eq_true p11;replace q11:=eq_true q11))
   go_ret
   exact ⟨by rfl,rU,aD,lq⟩
 ·replace c3:=Bool.eq_false_iff.mpr c3
  subst c3
  rw [if_neg (show ¬ (false=true) by decide)] at H
  simp only [Option.some.injEq,Prod.mk.injEq] at H
  obtain ⟨rfl,rfl,rfl⟩:=H
  go_enter Tryz.func138,Tryz.ntmps138
  go_wp2_with (((with_reducible refine bq (f:=180) rfl ?_);refine cK (some 7) rfl rfl Tryz.func180 aR rfl #[.pointer (some ⟨g,0,none⟩),.func (.func 181) #[] #[]] rfl dc ?_;(with_reducible refine (aT.calls k g jH iw t156 false t158 t159 w0 _ ?aX ?bF A2.out).mono ?_);(case aX=>repeat ((with_reducible exact rz.out)));(case bF=>repeat ((with_reducible exact HB.out)));rintro e rX ⟨rfl,hi,hb,hk⟩;refine ⟨_,rfl,?_⟩;replace HK:=ah.mk (dW.trans lq hk (.inl rfl));replace HB:=ah.mk (hb);replace rz:=ah.mk (hi);(try clear hb);(try clear hk);(try clear hi)))
  go_ret
  exact ⟨by rfl,rU,aD,lq⟩
end Go.Proofs.YtbjjaaodfbjkfaaGreatDoor.qb
