import Derived.Test.YtbjjaaodfbjkfaaGreatDoorESlim
import Derived.Test.YtbjjaaodfbjkfaaGreatDoorQQux1
set_option maxHeartbeats 8000000
set_option maxRecDepth 100000
namespace Go.Proofs.YtbjjaaodfbjkfaaGreatDoor.mN
open Go.RowKit Go.Proofs.YtbjjaaodfbjkfaaGreatDoor.xV Go.Proofs.ak.bQ Go.Proofs.ak.dA Go.Proofs.ak.cX
attribute [local go_sem] jc jd j4 j5 gU gV je jf
set_option linter.unusedVariables false
set_option linter.unusedSimpArgs false
attribute [local go_sem high] Nj
def cY.f (bf:Int) (bP:Bool) (cH:List ByteArray) (bE:ByteArray) (bK:ByteArray) (bU:Bool) (bN:List (jz)) (cM:List Int) (bX:Int):Option (Bool):=if bf=0 then (if bX=0 then (if bP=true then (some false) else (if (cH.length:Int)=0 then (if (bE.toList == ([]:List UInt8) && (bK.toList == ([]:List UInt8) && (!bU)))=true then (some ((wrap64 ((bN.length:Int) + (cM.length:Int))) == 0)) else (some false)) else (some false))) else (some false)) else (some false)
theorem cY.calls (bf:Int) (bP:Bool) (dR:Option Addr) (dS:Nat) (cH:List ByteArray) (bE:ByteArray) (bK:ByteArray) (bU:Bool) (cU:Option Addr) (cT:Nat) (bN:List (jz)) (dU:Option Addr) (dV:Nat) (cM:List Int) (bX:Int) (r:Bool) (w:World) (qp:Kd.C Kd.string w dR cH.length cH) (qq:cH.length≤dS) (mH:Kd.C tq w cU bN.length bN) (mQ:bN.length≤cT) (qu:Kd.C (Kd.int .u8) w dU cM.length cM) (qw:cM.length≤dV) (h:cY.f bf bP cH bE bK bU bN cM bX=some r):
 Calls Tryz.prog 63 #[.agg #[.int .i64 bf,.bool bP,.slice dR cH.length dS,.string bE,.string bK,.bool bU,.slice cU bN.length cT,.slice dU cM.length dV,.int .i64 bX]] w fun e w'=>e= .returned (.bool r)∧Below w.heap.size w w':=by
 have BD:=Tryz.underlying34
 have JW:=Tryz.underlying29
 have mI:=ah.mk qp
 have mJ:=ah.mk qq
 clear qp qq
 have lH:=ah.mk mH
 have mA:=ah.mk mQ
 clear mH mQ
 have vW:=ah.mk qu
 have vX:=ah.mk qw
 clear qu qw
 have HB:=ah.mk (Below.refl w.heap.size w)
 have H:(if bf=0 then (if bX=0 then (if bP=true then (some false) else (if (cH.length:Int)=0 then (if (bE.toList == ([]:List UInt8) && (bK.toList == ([]:List UInt8) && (!bU)))=true then (some ((wrap64 ((bN.length:Int) + (cM.length:Int))) == 0)) else (some false)) else (some false))) else (some false)) else (some false))=some r:=h
 clear h
 by_cases c2:bf=0
 ·rw [if_pos c2] at H
  have Ae:=beq_iff_eq.mpr c2
  have SQ:=bne_eq_false_iff_eq.mpr c2
  clear c2
  by_cases c3:bX=0
  ·rw [if_pos c3] at H
   have nr:=beq_iff_eq.mpr c3
   have xk:=bne_eq_false_iff_eq.mpr c3
   clear c3
   by_cases c4:bP=true
   ·subst c4
    rw [if_pos rfl] at H
    obtain rfl:=Option.some.inj H
    go_enter Tryz.func63,Tryz.ntmps63
    go_wp2_with (((with_reducible refine bq (N:=1) rfl ?_);(try (refine bV (by rfl) ?_;dsimp only));refine br ?hg (N:=1) ?hd (cs:=#[.int .i64 bf,.bool true,.slice dR cH.length dS,.string bE,.string bK,.bool bU,.slice cU bN.length cT,.slice dU cM.length dV,.int .i64 bX]) (t:=34) ?hr ?_;(case hd=>rfl);(case hg=>rfl);(case hr=>(go_simp;done));intro eV hg w5 bJ hb;have cN:=ah.mk (bJ);have JX:=ah.mk ((bI:w.heap.size≤eV));have JY:=ah.mk ((bI:w.heap.size≤eV));replace HB:=ah.mk (ay aJ hb);clear hb bJ hg;have av9:w5.cell? ⟨eV,0,none⟩=some (.int .i64 bf):=(af cN.out 0).trans rfl;have awa:w5.cell? ⟨eV,1,none⟩=some (.bool true):=(af cN.out 1).trans rfl;have awb:w5.cell? ⟨eV,2,none⟩=some (.slice dR cH.length dS):=(af cN.out 2).trans rfl;have awc:w5.cell? ⟨eV,3,none⟩=some (.string bE):=(af cN.out 3).trans rfl;have awd:w5.cell? ⟨eV,4,none⟩=some (.string bK):=(af cN.out 4).trans rfl;have awe:w5.cell? ⟨eV,5,none⟩=some (.bool bU):=(af cN.out 5).trans rfl;have awf:w5.cell? ⟨eV,6,none⟩=some (.slice cU bN.length cT):=(af cN.out 6).trans rfl;have awg:w5.cell? ⟨eV,7,none⟩=some (.slice dU cM.length dV):=(af cN.out 7).trans rfl;have awh:w5.cell? ⟨eV,8,none⟩=some (.int .i64 bX):=(af cN.out 8).trans rfl;have awi:=aa cN.out 0;have awj:=aa cN.out 1;have awk:=aa cN.out 2;have awl:=aa cN.out 3;have awm:=aa cN.out 4;have awn:=aa cN.out 5;have awo:=aa cN.out 6;have awp:=aa cN.out 7;have awq:=aa cN.out 8))
    go_ret
    exact ⟨by rfl,aJ⟩
   ·replace c4:=Bool.eq_false_iff.mpr c4
    subst c4
    rw [if_neg (show ¬ (false=true) by decide)] at H
    by_cases c7:(cH.length:Int)=0
    ·rw [if_pos c7] at H
     have JZ:=beq_iff_eq.mpr c7
     have awr:=bne_eq_false_iff_eq.mpr c7
     clear c7
     by_cases c8:(bE.toList == ([]:List UInt8) && (bK.toList == ([]:List UInt8) && (!bU)))=true
     ·rw [if_pos c8] at H
      obtain ⟨c8f,c8g,c8h⟩:bE.toList= []∧bK.toList= []∧bU=false:=by simpa using c8
      have BF:(bE.toList == ([]:List UInt8) && (bK.toList == ([]:List UInt8) && (!bU)))=true:=c8
      (try (have Lp:decide (bE.toList=([]:List UInt8) && (bK.toList == ([]:List UInt8) && (!bU)))=true:=by simpa using c8))
      (try (have abj:(bE.toList == ([]:List UInt8) && (bK.toList == ([]:List UInt8) && (!bU)))=true:=by simpa using c8))
      clear c8
      obtain rfl:=Option.some.inj H
      go_enter Tryz.func63,Tryz.ntmps63
      go_wp2_with (((with_reducible refine bq (N:=1) rfl ?_);(try (refine bV (by rfl) ?_;dsimp only));refine br ?hg (N:=1) ?hd (cs:=#[.int .i64 bf,.bool false,.slice dR cH.length dS,.string bE,.string bK,.bool bU,.slice cU bN.length cT,.slice dU cM.length dV,.int .i64 bX]) (t:=34) ?hr ?_;(case hd=>rfl);(case hg=>rfl);(case hr=>(go_simp;done));intro eV hg w9 bJ hb;have cN:=ah.mk (bJ);have JX:=ah.mk ((bI:w.heap.size≤eV));have JY:=ah.mk ((bI:w.heap.size≤eV));replace HB:=ah.mk (ay aJ hb);clear hb bJ hg;have Gl:w9.cell? ⟨eV,0,none⟩=some (.int .i64 bf):=(af cN.out 0).trans rfl;have Gm:w9.cell? ⟨eV,1,none⟩=some (.bool false):=(af cN.out 1).trans rfl;have Nk:w9.cell? ⟨eV,2,none⟩=some (.slice dR cH.length dS):=(af cN.out 2).trans rfl;have Nl:w9.cell? ⟨eV,3,none⟩=some (.string bE):=(af cN.out 3).trans rfl;have Nn:w9.cell? ⟨eV,4,none⟩=some (.string bK):=(af cN.out 4).trans rfl;have U0:w9.cell? ⟨eV,5,none⟩=some (.bool bU):=(af cN.out 5).trans rfl;have U1:w9.cell? ⟨eV,6,none⟩=some (.slice cU bN.length cT):=(af cN.out 6).trans rfl;have U2:w9.cell? ⟨eV,7,none⟩=some (.slice dU cM.length dV):=(af cN.out 7).trans rfl;have U3:w9.cell? ⟨eV,8,none⟩=some (.int .i64 bX):=(af cN.out 8).trans rfl;have Gn:=aa cN.out 0;have Gp:=aa cN.out 1;have Np:=aa cN.out 2;have Nq:=aa cN.out 3;have Nr:=aa cN.out 4;have U4:=aa cN.out 5;have U5:=aa cN.out 6;have U6:=aa cN.out 7;have U7:=aa cN.out 8))
      go_ret
      exact ⟨by rfl,aJ⟩
     ·rw [if_neg c8] at H
      have c8e:(bE.toList= []∧bK.toList= []∧bU=false)=False:=eq_false (fun ⟨h1_,h2_,h3_⟩=>c8 (by simp [h1_,h2_,h3_]))
      have BF:(bE.toList == ([]:List UInt8) && (bK.toList == ([]:List UInt8) && (!bU)))=false:=by simpa using c8
      (try (have Lp:decide (bE.toList=([]:List UInt8) && (bK.toList == ([]:List UInt8) && (!bU)))=false:=by simpa using c8))
      (try (have abj:(bE.toList == ([]:List UInt8) && (bK.toList == ([]:List UInt8) && (!bU)))=false:=by simpa using c8))
      (try (have aws: ¬ (bE.toList=([]:List UInt8) && (bK.toList == ([]:List UInt8) && (!bU))):=by simpa using c8))
      clear c8
      obtain rfl:=Option.some.inj H
      go_enter Tryz.func63,Tryz.ntmps63
      go_wp2_with (((with_reducible refine bq (N:=1) rfl ?_);(try (refine bV (by rfl) ?_;dsimp only));refine br ?hg (N:=1) ?hd (cs:=#[.int .i64 bf,.bool false,.slice dR cH.length dS,.string bE,.string bK,.bool bU,.slice cU bN.length cT,.slice dU cM.length dV,.int .i64 bX]) (t:=34) ?hr ?_;(case hd=>rfl);(case hg=>rfl);(case hr=>(go_simp;done));intro eV hg vK bJ hb;have cN:=ah.mk (bJ);have JX:=ah.mk ((bI:w.heap.size≤eV));have JY:=ah.mk ((bI:w.heap.size≤eV));replace HB:=ah.mk (ay aJ hb);clear hb bJ hg;have ue:vK.cell? ⟨eV,0,none⟩=some (.int .i64 bf):=(af cN.out 0).trans rfl;have uf:vK.cell? ⟨eV,1,none⟩=some (.bool false):=(af cN.out 1).trans rfl;have wP:vK.cell? ⟨eV,2,none⟩=some (.slice dR cH.length dS):=(af cN.out 2).trans rfl;have yF:vK.cell? ⟨eV,3,none⟩=some (.string bE):=(af cN.out 3).trans rfl;have yG:vK.cell? ⟨eV,4,none⟩=some (.string bK):=(af cN.out 4).trans rfl;have yH:vK.cell? ⟨eV,5,none⟩=some (.bool bU):=(af cN.out 5).trans rfl;have yI:vK.cell? ⟨eV,6,none⟩=some (.slice cU bN.length cT):=(af cN.out 6).trans rfl;have yJ:vK.cell? ⟨eV,7,none⟩=some (.slice dU cM.length dV):=(af cN.out 7).trans rfl;have yK:vK.cell? ⟨eV,8,none⟩=some (.int .i64 bX):=(af cN.out 8).trans rfl;have ug:=aa cN.out 0;have uh:=aa cN.out 1;have wQ:=aa cN.out 2;have yL:=aa cN.out 3;have yM:=aa cN.out 4;have yN:=aa cN.out 5;have yO:=aa cN.out 6;have yP:=aa cN.out 7;have yQ:=aa cN.out 8))
      go_ret
      exact ⟨by rfl,aJ⟩
    ·rw [if_neg c7] at H
     have JZ:=beq_eq_false_iff_ne.mpr c7
     have awr:=bne_iff_ne.mpr c7
     have aCc: ¬ (cH= []):=fun h_ =>c7 (by rw [h_];rfl)
     obtain rfl:=Option.some.inj H
     go_enter Tryz.func63,Tryz.ntmps63
     go_wp2_with (((with_reducible refine bq (N:=1) rfl ?_);(try (refine bV (by rfl) ?_;dsimp only));refine br ?hg (N:=1) ?hd (cs:=#[.int .i64 bf,.bool false,.slice dR cH.length dS,.string bE,.string bK,.bool bU,.slice cU bN.length cT,.slice dU cM.length dV,.int .i64 bX]) (t:=34) ?hr ?_;(case hd=>rfl);(case hg=>rfl);(case hr=>(go_simp;done));intro eV hg ko bJ hb;have cN:=ah.mk (bJ);have JX:=ah.mk ((bI:w.heap.size≤eV));have JY:=ah.mk ((bI:w.heap.size≤eV));replace HB:=ah.mk (ay aJ hb);clear hb bJ hg;have wR:ko.cell? ⟨eV,0,none⟩=some (.int .i64 bf):=(af cN.out 0).trans rfl;have wS:ko.cell? ⟨eV,1,none⟩=some (.bool false):=(af cN.out 1).trans rfl;have yR:ko.cell? ⟨eV,2,none⟩=some (.slice dR cH.length dS):=(af cN.out 2).trans rfl;have yS:ko.cell? ⟨eV,3,none⟩=some (.string bE):=(af cN.out 3).trans rfl;have yT:ko.cell? ⟨eV,4,none⟩=some (.string bK):=(af cN.out 4).trans rfl;have yU:ko.cell? ⟨eV,5,none⟩=some (.bool bU):=(af cN.out 5).trans rfl;have Ce:ko.cell? ⟨eV,6,none⟩=some (.slice cU bN.length cT):=(af cN.out 6).trans rfl;have Cf:ko.cell? ⟨eV,7,none⟩=some (.slice dU cM.length dV):=(af cN.out 7).trans rfl;have Cg:ko.cell? ⟨eV,8,none⟩=some (.int .i64 bX):=(af cN.out 8).trans rfl;have wT:=aa cN.out 0;have wU:=aa cN.out 1;have yV:=aa cN.out 2;have yX:=aa cN.out 3;have yY:=aa cN.out 4;have yZ:=aa cN.out 5;have Ch:=aa cN.out 6;have Ci:=aa cN.out 7;have Cj:=aa cN.out 8))
     go_ret
     exact ⟨by rfl,aJ⟩
  ·rw [if_neg c3] at H
   have nr:=beq_eq_false_iff_ne.mpr c3
   have xk:=bne_iff_ne.mpr c3
   obtain rfl:=Option.some.inj H
   go_enter Tryz.func63,Tryz.ntmps63
   go_wp2_with (((with_reducible refine bq (N:=1) rfl ?_);(try (refine bV (by rfl) ?_;dsimp only));refine br ?hg (N:=1) ?hd (cs:=#[.int .i64 bf,.bool bP,.slice dR cH.length dS,.string bE,.string bK,.bool bU,.slice cU bN.length cT,.slice dU cM.length dV,.int .i64 bX]) (t:=34) ?hr ?_;(case hd=>rfl);(case hg=>rfl);(case hr=>(go_simp;done));intro eV hg qJ bJ hb;have cN:=ah.mk (bJ);have JX:=ah.mk ((bI:w.heap.size≤eV));have JY:=ah.mk ((bI:w.heap.size≤eV));replace HB:=ah.mk (ay aJ hb);clear hb bJ hg;have za:qJ.cell? ⟨eV,0,none⟩=some (.int .i64 bf):=(af cN.out 0).trans rfl;have zb:qJ.cell? ⟨eV,1,none⟩=some (.bool bP):=(af cN.out 1).trans rfl;have ze:qJ.cell? ⟨eV,2,none⟩=some (.slice dR cH.length dS):=(af cN.out 2).trans rfl;have zf:qJ.cell? ⟨eV,3,none⟩=some (.string bE):=(af cN.out 3).trans rfl;have zg:qJ.cell? ⟨eV,4,none⟩=some (.string bK):=(af cN.out 4).trans rfl;have Ck:qJ.cell? ⟨eV,5,none⟩=some (.bool bU):=(af cN.out 5).trans rfl;have Gq:qJ.cell? ⟨eV,6,none⟩=some (.slice cU bN.length cT):=(af cN.out 6).trans rfl;have Gr:qJ.cell? ⟨eV,7,none⟩=some (.slice dU cM.length dV):=(af cN.out 7).trans rfl;have Gs:qJ.cell? ⟨eV,8,none⟩=some (.int .i64 bX):=(af cN.out 8).trans rfl;have zh:=aa cN.out 0;have zi:=aa cN.out 1;have zj:=aa cN.out 2;have zk:=aa cN.out 3;have zl:=aa cN.out 4;have Cl:=aa cN.out 5;have Gt:=aa cN.out 6;have Gu:=aa cN.out 7;have Gv:=aa cN.out 8))
   go_ret
   exact ⟨by rfl,aJ⟩
 ·rw [if_neg c2] at H
  have Ae:=beq_eq_false_iff_ne.mpr c2
  have SQ:=bne_iff_ne.mpr c2
  obtain rfl:=Option.some.inj H
  go_enter Tryz.func63,Tryz.ntmps63
  go_wp2_with (((with_reducible refine bq (N:=1) rfl ?_);(try (refine bV (by rfl) ?_;dsimp only));refine br ?hg (N:=1) ?hd (cs:=#[.int .i64 bf,.bool bP,.slice dR cH.length dS,.string bE,.string bK,.bool bU,.slice cU bN.length cT,.slice dU cM.length dV,.int .i64 bX]) (t:=34) ?hr ?_;(case hd=>rfl);(case hg=>rfl);(case hr=>(go_simp;done));intro eV hg sL bJ hb;have cN:=ah.mk (bJ);have JX:=ah.mk ((bI:w.heap.size≤eV));have JY:=ah.mk ((bI:w.heap.size≤eV));replace HB:=ah.mk (ay aJ hb);clear hb bJ hg;have Cm:sL.cell? ⟨eV,0,none⟩=some (.int .i64 bf):=(af cN.out 0).trans rfl;have Cn:sL.cell? ⟨eV,1,none⟩=some (.bool bP):=(af cN.out 1).trans rfl;have Co:sL.cell? ⟨eV,2,none⟩=some (.slice dR cH.length dS):=(af cN.out 2).trans rfl;have Cq:sL.cell? ⟨eV,3,none⟩=some (.string bE):=(af cN.out 3).trans rfl;have Cr:sL.cell? ⟨eV,4,none⟩=some (.string bK):=(af cN.out 4).trans rfl;have Gw:sL.cell? ⟨eV,5,none⟩=some (.bool bU):=(af cN.out 5).trans rfl;have Ns:sL.cell? ⟨eV,6,none⟩=some (.slice cU bN.length cT):=(af cN.out 6).trans rfl;have Nt:sL.cell? ⟨eV,7,none⟩=some (.slice dU cM.length dV):=(af cN.out 7).trans rfl;have Nu:sL.cell? ⟨eV,8,none⟩=some (.int .i64 bX):=(af cN.out 8).trans rfl;have Cs:=aa cN.out 0;have Ct:=aa cN.out 1;have Cu:=aa cN.out 2;have Cv:=aa cN.out 3;have Cw:=aa cN.out 4;have Gx:=aa cN.out 5;have Nv:=aa cN.out 6;have Nw:=aa cN.out 7;have Ny:=aa cN.out 8))
  go_ret
  exact ⟨by rfl,aJ⟩
def eo (w0 W:World) (g:Nat) (f0:ByteArray) (f1:Int):Prop:=W.heap[g]? =some (.cells #[.string f0,.int .i64 f1] 132 (0,0))∧w0.heap.size≤g
theorem eo.grown {w0 W:World} {g:Nat} {f0:ByteArray} {f1:Int} {W1:World} {row:Option Nat} (h:eo w0 W g f0 f1) (hw:W.grownBy W1 row) (hne:some g≠row):eo w0 W1 g f0 f1:=by
 obtain ⟨hb,hg⟩:=h
 exact ⟨fG hb hw hne,hg⟩
theorem eo.kept {w0 W:World} {g:Nat} {f0:ByteArray} {f1:Int} {W1:World} {S:Nat→Prop} (h:eo w0 W g f0 f1) (hk:Kept W W1 S) (hne: ¬ S g):eo w0 W1 g f0 f1:=by
 obtain ⟨hb,hg⟩:=h
 exact ⟨Dr hb hk hne,hg⟩
theorem eo.below {w0 W:World} {g:Nat} {f0:ByteArray} {f1:Int} {W1:World} (h:eo w0 W g f0 f1) (hw:Below W.heap.size W W1):eo w0 W1 g f0 f1:=h.grown (ld hw none) cP
theorem eo.alloc {w0 W:World} {g:Nat} {f0:ByteArray} {f1:Int} (h:eo w0 W g f0 f1) (o:Obj):eo w0 (W.alloc o) g f0 f1:=h.below (bW (Below.refl _ _) o)
theorem eo.drewN {w0 W:World} {g:Nat} {f0:ByteArray} {f1:Int} (h:eo w0 W g f0 f1) (m:Nat):eo w0 (W.drewN m) g f0 f1:=h
theorem eo.drew {w0 W:World} {g:Nat} {f0:ByteArray} {f1:Int} (h:eo w0 W g f0 f1):eo w0 W.drew g f0 f1:=h
theorem eo.at_ {w0 W:World} {g:Nat} {f0:ByteArray} {f1:Int} {w':World} {m:Nat} (hq:W.drewN m=w') (h:eo w0 W g f0 f1):eo w0 w' g f0 f1:=by subst hq;exact eo.drewN h m
theorem eo.apart {w0 W:World} {g:Nat} {f0:ByteArray} {f1:Int} {α:Type} {d:Kd α} {e:Nat} {base:Nat} {ok:Nat→Prop} {v:Value} {xs:List α} (h:eo w0 W g f0 f1) (ho:d.R e W base ok v xs) (ht:∀ q,q∈e :: d.E→q≠132):d.R e W base (fun k=>ok k∧k≠g) v xs:=by
 obtain ⟨hb,hg⟩:=h
 exact Kd.dD ho hb ht
theorem eo.own_ne {w0 W:World} {g:Nat} {f0:ByteArray} {f1:Int} {α:Type} {d:Kd α} {e:Nat} {base:Nat} {ok:Nat→Prop} {v:Value} {xs:List α} (h:eo w0 W g f0 f1) (ho:d.R e W base ok v xs) (ht:e≠132):some g≠v.ownBlock:=by
 obtain ⟨hb,hg⟩:=h
 exact Kd.vT ho hb ht
theorem eo.ge {w0 W:World} {g:Nat} {f0:ByteArray} {f1:Int} (h:eo w0 W g f0 f1):w0.heap.size≤g:=by
 obtain ⟨hb,hg⟩:=h
 exact hg
theorem eo.far {w0 W:World} {g:Nat} {f0:ByteArray} {f1:Int} {p:Addr} (h:eo w0 W g f0 f1) (hne:g≠p.block) (u:Value):eo w0 (W.setCell p u) g f0 f1:=by
 obtain ⟨hb,hg⟩:=h
 exact ⟨aW hb hne u,hg⟩
theorem jX {W:World} {g:Nat} {f0:ByteArray} {f1:Int} (h:W.heap[g]? =some (.cells #[.string f0,.int .i64 f1] 132 (0,0))):W.cell? ⟨g,0,none⟩=some (.string f0):=(af h 0).trans rfl
theorem jY {W:World} {g:Nat} {f0:ByteArray} {f1:Int} (h:W.heap[g]? =some (.cells #[.string f0,.int .i64 f1] 132 (0,0))):W.cell? ⟨g,1,none⟩=some (.int .i64 f1):=(af h 1).trans rfl
theorem eo.adU {w0 W:World} {g:Nat} {f0:ByteArray} {f1:Int} (h:eo w0 W g f0 f1) (x:Int):eo w0 (W.setCell ⟨g,1,none⟩ (.int .i64 x)) g f0 x:=by
 obtain ⟨hb,hg⟩:=h
 exact ⟨by simpa using Gd hb 1 (.int .i64 x),hg⟩
def ji.f (jL:ByteArray) (gX:Int) (a1:Int):Option (Bool×ByteArray×Int):=if gX < (jL.size:Int) then (if 0≤gX then (if (bt jL gX)=a1 then (some (true,jL,wrap64 (gX + 1))) else (some (false,jL,gX))) else (none)) else (some (false,jL,gX))
theorem ji.calls (g:Nat) (jL:ByteArray) (gX:Int) (a1:Int) (r1:Bool) (r2:ByteArray) (r3:Int) (w0 w:World) (hI:eo w0 w g jL gX) (hB:Below w0.heap.size w0 w) (h:ji.f jL gX a1=some (r1,r2,r3)):
 Calls Tryz.prog 179 #[.pointer (some ⟨g,0,none⟩),.int .u8 a1] w fun e w'=>e= .returned (.bool r1)∧eo w0 w' g r2 r3∧Below w0.heap.size w0 w'∧dF w w' g none:=by
 have rz:=ah.mk hI
 have HK:=ah.mk (dF.refl w g none)
 have HL:=ah.mk hB.size
 clear hI
 have HW0:=ah.mk hB.size
 have HB:=ah.mk hB
 clear hB
 have H:(if gX < (jL.size:Int) then (if 0≤gX then (if (bt jL gX)=a1 then (some (true,jL,wrap64 (gX + 1))) else (some (false,jL,gX))) else (none)) else (some (false,jL,gX)))=some (r1,r2,r3):=h
 clear h
 by_cases c3:gX < (jL.size:Int)
 ·rw [if_pos c3] at H
  have nr:=decide_eq_true c3
  clear c3
  obtain ⟨c4,H⟩:=lJ H
  have mo:=decide_eq_true c4
  clear c4
  by_cases c6:(bt jL gX)=a1
  ·rw [if_pos c6] at H
   have xW:=beq_iff_eq.mpr c6
   have SR:=bne_eq_false_iff_eq.mpr c6
   clear c6
   simp only [Option.some.injEq,Prod.mk.injEq] at H
   obtain ⟨rfl,rfl,rfl⟩:=H
   obtain ⟨Dt,abk⟩:=rz.out
   have Gy:=jX Dt
   have Gz:=jY Dt
   have GA:=aa Dt 0
   have GC:=aa Dt 1
   clear Dt abk
   have p5: 0≤(gX:Int):=of_decide_eq_true cu
   have q5:gX < (jL.size:Int):=of_decide_eq_true cu
   have RA:=vw jL gX
   replace p5:=eq_true p5
   replace q5:=eq_true q5
   go_enter Tryz.func179,Tryz.ntmps179
   go_wp2
   repeat (go_quiet (fail);try go_wp2)
   go_ret
   exact ⟨by rfl,MW,MU,MZ⟩
  ·rw [if_neg c6] at H
   have xW:=beq_eq_false_iff_ne.mpr c6
   have SR:=bne_iff_ne.mpr c6
   simp only [Option.some.injEq,Prod.mk.injEq] at H
   obtain ⟨rfl,rfl,rfl⟩:=H
   obtain ⟨Du,abl⟩:=rz.out
   have Dv:=jX Du
   have Dw:=jY Du
   have Dx:=aa Du 0
   have Dy:=aa Du 1
   clear Du abl
   have p5: 0≤(gX:Int):=of_decide_eq_true cu
   have q5:gX < (jL.size:Int):=of_decide_eq_true cu
   have RA:=vw jL gX
   replace p5:=eq_true p5
   replace q5:=eq_true q5
   go_enter Tryz.func179,Tryz.ntmps179
   go_wp2
   repeat (go_quiet (fail);try go_wp2)
   go_ret
   exact ⟨by rfl,FM,dY,BP⟩
 ·rw [if_neg c3] at H
  have nr:=decide_eq_false c3
  clear c3
  simp only [Option.some.injEq,Prod.mk.injEq] at H
  obtain ⟨rfl,rfl,rfl⟩:=H
  obtain ⟨Dz,abm⟩:=rz.out
  have Af:=jX Dz
  have Ag:=jY Dz
  have Ah:=aa Dz 0
  have Ai:=aa Dz 1
  clear Dz abm
  go_enter Tryz.func179,Tryz.ntmps179
  go_wp2
  repeat (go_quiet (fail);try go_wp2)
  go_ret
  exact ⟨by rfl,FM,dY,BP⟩
def mK.f (a0:Int):Option (Bool):=if a0≥97 then (if a0≤122 then (some true) else (if a0≥65 then (some (decide (a0≤90))) else (some false))) else (if a0≥65 then (some (decide (a0≤90))) else (some false))
theorem mK.calls (a0:Int) (r:Bool) (w:World) (h:mK.f a0=some r):
 Calls Tryz.prog 182 #[.int .u8 a0] w fun e w'=>e= .returned (.bool r)∧ij w w':=by
 have H:(if a0≥97 then (if a0≤122 then (some true) else (if a0≥65 then (some (decide (a0≤90))) else (some false))) else (if a0≥65 then (some (decide (a0≤90))) else (some false)))=some r:=h
 clear h
 by_cases c2:a0≥97
 ·rw [if_pos c2] at H
  have Ae:decide (97≤a0)=true:=decide_eq_true c2
  clear c2
  by_cases c3:a0≤122
  ·rw [if_pos c3] at H
   have nr:=decide_eq_true c3
   clear c3
   obtain rfl:=Option.some.inj H
   go_enter Tryz.func182,Tryz.ntmps182
   go_wp2
   go_ret
   exact ⟨by rfl,mj⟩
  ·rw [if_neg c3] at H
   have nr:=decide_eq_false c3
   clear c3
   by_cases c4:a0≥65
   ·rw [if_pos c4] at H
    have mo:decide (65≤a0)=true:=decide_eq_true c4
    clear c4
    obtain rfl:=Option.some.inj H
    go_enter Tryz.func182,Tryz.ntmps182
    go_wp2
    go_ret
    exact ⟨by rfl,mj⟩
   ·rw [if_neg c4] at H
    have mo:decide (65≤a0)=false:=decide_eq_false c4
    clear c4
    obtain rfl:=Option.some.inj H
    go_enter Tryz.func182,Tryz.ntmps182
    go_wp2
    go_ret
    exact ⟨by rfl,mj⟩
 ·rw [if_neg c2] at H
  have Ae:decide (97≤a0)=false:=decide_eq_false c2
  clear c2
  by_cases c5:a0≥65
  ·rw [if_pos c5] at H
   have pG:decide (65≤a0)=true:=decide_eq_true c5
   clear c5
   obtain rfl:=Option.some.inj H
   go_enter Tryz.func182,Tryz.ntmps182
   go_wp2
   go_ret
   exact ⟨by rfl,mj⟩
  ·rw [if_neg c5] at H
   have pG:decide (65≤a0)=false:=decide_eq_false c5
   clear c5
   obtain rfl:=Option.some.inj H
   go_enter Tryz.func182,Tryz.ntmps182
   go_wp2
   go_ret
   exact ⟨by rfl,mj⟩
def pH.f (a0:Int):Option (Bool):=if a0≥48 then (some (decide (a0≤57))) else (some false)
theorem pH.calls (a0:Int) (r:Bool) (w:World) (h:pH.f a0=some r):
 Calls Tryz.prog 183 #[.int .u8 a0] w fun e w'=>e= .returned (.bool r)∧ij w w':=by
 have H:(if a0≥48 then (some (decide (a0≤57))) else (some false))=some r:=h
 clear h
 by_cases c2:a0≥48
 ·rw [if_pos c2] at H
  have Ae:decide (48≤a0)=true:=decide_eq_true c2
  clear c2
  obtain rfl:=Option.some.inj H
  go_enter Tryz.func183,Tryz.ntmps183
  go_wp2
  go_ret
  exact ⟨by rfl,mj⟩
 ·rw [if_neg c2] at H
  have Ae:decide (48≤a0)=false:=decide_eq_false c2
  clear c2
  obtain rfl:=Option.some.inj H
  go_enter Tryz.func183,Tryz.ntmps183
  go_wp2
  go_ret
  exact ⟨by rfl,mj⟩
def fK.f (a0:Int):Option (Bool):=(mK.f a0).bind fun t136=>(if t136=true then (some true) else ((pH.f a0).bind fun t137=>(if t137=true then (some true) else (some (a0 == 45)))))
theorem fK.calls (a0:Int) (r:Bool) (w:World) (h:fK.f a0=some r):
 Calls Tryz.prog 181 #[.int .u8 a0] w fun e w'=>e= .returned (.bool r)∧ij w w':=by
 have H:((mK.f a0).bind fun t136=>(if t136=true then (some true) else ((pH.f a0).bind fun t137=>(if t137=true then (some true) else (some (a0 == 45))))))=some r:=h
 clear h
 obtain ⟨t136,A2,H⟩:=bd_ H
 by_cases c3:t136=true
 ·subst c3
  rw [if_pos rfl] at H
  obtain rfl:=Option.some.inj H
  go_enter Tryz.func181,Tryz.ntmps181
  go_wp2_with (((with_reducible refine bH (f:=182) rfl ?_);refine dx (some 4) rfl rfl Tryz.func182 aq rfl #[.int .u8 a0] rfl dI ?_;(with_reducible refine (mK.calls a0 true _ A2.out).mono ?_);rintro e w' ⟨rfl,⟨nd,rfl⟩⟩;refine ⟨_,rfl,?_⟩))
  go_ret
  exact ⟨by rfl,kI⟩
 ·replace c3:=Bool.eq_false_iff.mpr c3
  subst c3
  rw [if_neg (show ¬ (false=true) by decide)] at H
  obtain ⟨t137,A4,H⟩:=bd_ H
  by_cases c5:t137=true
  ·subst c5
   rw [if_pos rfl] at H
   obtain rfl:=Option.some.inj H
   go_enter Tryz.func181,Tryz.ntmps181
   go_wp2_with (first|((with_reducible refine bH (f:=182) rfl ?_);refine dx (some 4) rfl rfl Tryz.func182 aq rfl #[.int .u8 a0] rfl dI ?_;(with_reducible refine (mK.calls a0 false _ A2.out).mono ?_);rintro e w' ⟨rfl,⟨nd,rfl⟩⟩;refine ⟨_,rfl,?_⟩)|(go_at_call 183;(with_reducible refine (pH.calls a0 true _ A4.out).mono ?_);rintro e w' ⟨rfl,⟨nd,rfl⟩⟩))
   go_ret
   exact ⟨by rfl,kI⟩
  ·replace c5:=Bool.eq_false_iff.mpr c5
   subst c5
   rw [if_neg (show ¬ (false=true) by decide)] at H
   obtain rfl:=Option.some.inj H
   go_enter Tryz.func181,Tryz.ntmps181
   go_wp2_with (first|((with_reducible refine bH (f:=182) rfl ?_);refine dx (some 4) rfl rfl Tryz.func182 aq rfl #[.int .u8 a0] rfl dI ?_;(with_reducible refine (mK.calls a0 false _ A2.out).mono ?_);rintro e w' ⟨rfl,⟨nd,rfl⟩⟩;refine ⟨_,rfl,?_⟩)|(go_at_call 183;(with_reducible refine (pH.calls a0 false _ A4.out).mono ?_);rintro e w' ⟨rfl,⟨nd,rfl⟩⟩))
   go_ret
   exact ⟨by rfl,kI⟩
def aQ.l0:Nat→Int→ByteArray→Int→Option (ByteArray×Bool×ByteArray×Int)
 | 0,_,_,_ =>none
 |k + 1,x6,vY,qx=>if qx < (vY.size:Int) then (if 0≤qx then ((fK.f (bt vY qx)).bind fun t138=>(if t138=true then (aQ.l0 k x6 vY (wrap64 (qx + 1))) else (if 0≤x6 then (if x6≤qx then (if qx≤(vY.size:Int) then (some (vY.extract (x6:Int).toNat (qx:Int).toNat,decide (qx > x6),vY,qx)) else (none)) else (none)) else (none)))) else (none)) else (if 0≤x6 then (if x6≤qx then (if qx≤(vY.size:Int) then (some (vY.extract (x6:Int).toNat (qx:Int).toNat,decide (qx > x6),vY,qx)) else (none)) else (none)) else (none))
def aQ.f (k:Nat) (jL:ByteArray) (gX:Int):Option (ByteArray×Bool×ByteArray×Int):=aQ.l0 k gX jL gX
theorem aQ.ey:∀ k,(∀ y0 y1 y2,eY (aQ.l0 k y0 y1 y2) (aQ.l0 (k + 1) y0 y1 y2))
 | 0=>fun _ _ _ r h=>by simp [aQ.l0] at h
 |k + 1=>by
  have mC:=aQ.ey k
  ·intro y0 y1 y2
   unfold aQ.l0
   repeat' (with_reducible first|exact mC _ _ _|exact eY.refl _|refine eY.ite ?_ ?_|refine eY.bind ?_ (fun _ =>?_))
theorem aQ.mono:∀ a0 a1 k,eY (aQ.f k a0 a1) (aQ.f (k + 1) a0 a1):=by
 intro a0 a1 k
 have mC:=aQ.ey k
 unfold aQ.f
 repeat' (with_reducible exact mC _ _ _)
theorem aQ.calls (k:Nat) (g:Nat) (jL:ByteArray) (gX:Int) (r1:ByteArray) (r2:Bool) (r3:ByteArray) (r4:Int) (w0 w:World) (hI:eo w0 w g jL gX) (hB:Below w0.heap.size w0 w) (h:aQ.f k jL gX=some (r1,r2,r3,r4)):
 Calls Tryz.prog 180 #[.pointer (some ⟨g,0,none⟩),.func (.func 181) #[] #[]] w fun e w'=>e= .returned (.tuple #[.string r1,.bool r2])∧eo w0 w' g r3 r4∧Below w0.heap.size w0 w'∧dF w w' g none:=by
 have rz:=ah.mk hI
 have HK:=ah.mk (dF.refl w g none)
 have HL:=ah.mk hB.size
 clear hI
 have HW0:=ah.mk hB.size
 have HB:=ah.mk hB
 clear hB
 have H:(aQ.l0 k gX jL gX)=some (r1,r2,r3,r4):=h
 clear h
 have H':=ah.mk H
 clear H
 obtain ⟨SS,awt⟩:=rz.out
 have Lq:=jX SS
 have Lr:=jY SS
 have Ls:=aa SS 0
 have Lt:=aa SS 1
 clear SS awt
 go_enter Tryz.func180,Tryz.ntmps180
 go_wp2
 repeat (go_quiet (fail);skip)
 go_loopg [] k (fun kq w'=>∃ (j6:ByteArray) (jt:Int),ah (aQ.l0 kq gX j6 jt=some (r1,r2,r3,r4))∧ah (kq≤k)∧ah (eo w0 w' g j6 jt)∧ah (dF w w' g none)∧ah (Below w0.heap.size w0 w'))
 case atStart=>exact ⟨(jL),(gX),H',⟨Nat.le_refl _⟩,⟨sI⟩,⟨jV⟩,⟨aJ⟩⟩
 case round=>
  clear H'
  obtain ⟨j6,jt,HA,qi,rz,HK,HB⟩:=hrel
  cases gk with
  |zero=>exact absurd HA.out (by simp [aQ.l0])
  |succ k1=>
   have H:=HA.out
   clear HA
   simp only [aQ.l0] at H
   by_cases c4:jt < (j6.size:Int)
   ·rw [if_pos c4] at H
    have mo:=decide_eq_true c4
    clear c4
    obtain ⟨c5,H⟩:=lJ H
    have pG:=decide_eq_true c5
    clear c5
    obtain ⟨t138,A7,H⟩:=bd_ H
    by_cases c8:t138=true
    ·subst c8
     rw [if_pos rfl] at H
     have H':=ah.mk H
     clear H
     obtain ⟨Dz,abm⟩:=rz.out
     have Af:=jX Dz
     have Ag:=jY Dz
     have Ah:=aa Dz 0
     have Ai:=aa Dz 1
     clear Dz abm
     have p6: 0≤(jt:Int):=of_decide_eq_true cu
     have q6:jt < (j6.size:Int):=of_decide_eq_true cu
     have Qw:=vw j6 jt
     replace p6:=eq_true p6
     replace q6:=eq_true q6
     go_wp2_with (fail)
     repeat (go_quiet ((go_at_call 181;(with_reducible refine (fK.calls (bt j6 jt) true _ A7.out).mono ?_);rintro e w' ⟨rfl,⟨nd,rfl⟩⟩;(try exact ⟨rfl,_,World.drewN_drewN _ _ _⟩)));try go_wp2_with (fail))
     go_roundg k1
     case measure=>have:=qi.out;omega
     case rel=>exact ⟨(j6),(wrap64 (jt + 1)),H',⟨lI⟩,⟨MW⟩,⟨MZ⟩,⟨MU⟩⟩
    ·replace c8:=Bool.eq_false_iff.mpr c8
     subst c8
     rw [if_neg (show ¬ (false=true) by decide)] at H
     obtain ⟨c10,H⟩:=lJ H
     have E6:=eq_true c10
     have Z9:=decide_eq_true c10
     clear c10
     obtain ⟨c11,H⟩:=lJ H
     have DA:=eq_true c11
     have ayV:=decide_eq_true c11
     clear c11
     obtain ⟨c12,H⟩:=lJ H
     have J0:=eq_true c12
     have SU:=decide_eq_true c12
     clear c12
     simp only [Option.some.injEq,Prod.mk.injEq] at H
     obtain ⟨rfl,rfl,rfl,rfl⟩:=H
     obtain ⟨J1,aeb⟩:=rz.out
     have U8:=jX J1
     have U9:=jY J1
     have Va:=aa J1 0
     have Vb:=aa J1 1
     clear J1 aeb
     have p6: 0≤(jt:Int):=of_decide_eq_true cu
     have q6:jt < (j6.size:Int):=of_decide_eq_true cu
     have Qw:=vw j6 jt
     replace p6:=eq_true p6
     replace q6:=eq_true q6
     go_wp2_with (fail)
     repeat (go_quiet ((go_at_call 181;(with_reducible refine (fK.calls (bt j6 jt) false _ A7.out).mono ?_);rintro e w' ⟨rfl,⟨nd,rfl⟩⟩;(try exact ⟨rfl,_,World.drewN_drewN _ _ _⟩)));try go_wp2_with (fail))
     go_ret2
     exact ⟨by rfl,FM,dY,BP⟩
   ·rw [if_neg c4] at H
    have mo:=decide_eq_false c4
    clear c4
    obtain ⟨c14,H⟩:=lJ H
    have SV:=eq_true c14
    have SX:=decide_eq_true c14
    clear c14
    obtain ⟨c15,H⟩:=lJ H
    have aaa:=eq_true c15
    have ayW:=decide_eq_true c15
    clear c15
    obtain ⟨c16,H⟩:=lJ H
    have ayX:=eq_true c16
    have ayY:=decide_eq_true c16
    clear c16
    simp only [Option.some.injEq,Prod.mk.injEq] at H
    obtain ⟨rfl,rfl,rfl,rfl⟩:=H
    obtain ⟨J2,aec⟩:=rz.out
    have Nz:=jX J2
    have NA:=jY J2
    have NB:=aa J2 0
    have NC:=aa J2 1
    clear J2 aec
    go_wp2
    repeat (go_quiet (fail);try go_wp2)
    go_ret2
    exact ⟨by rfl,FM,dY,BP⟩
def eZ.f (k:Nat) (jL:ByteArray) (gX:Int):Option (Bool×ByteArray×Int):=(aQ.f k jL gX).bind fun kD=>(if kD.2.1=true then (if 0 < (kD.1.size:Int) then (if (bt kD.1 0)=45 then (some (false,kD.2.2.1,kD.2.2.2)) else (if 0≤(wrap64 ((kD.1.size:Int) - 1)) then (if (wrap64 ((kD.1.size:Int) - 1)) < (kD.1.size:Int) then (some (((bt kD.1 (wrap64 ((kD.1.size:Int) - 1))) != 45),kD.2.2.1,kD.2.2.2)) else (none)) else (none))) else (none)) else (some (false,kD.2.2.1,kD.2.2.2)))
theorem eZ.mono:∀ a0 a1 k,eY (eZ.f k a0 a1) (eZ.f (k + 1) a0 a1):=by
 intro a0 a1 k
 unfold eZ.f
 repeat' (with_reducible first|exact aQ.mono _ _ _|exact eY.refl _|refine eY.bind ?_ (fun _ =>?_))
theorem eZ.calls (k:Nat) (g:Nat) (jL:ByteArray) (gX:Int) (r1:Bool) (r2:ByteArray) (r3:Int) (w0 w:World) (hI:eo w0 w g jL gX) (hB:Below w0.heap.size w0 w) (h:eZ.f k jL gX=some (r1,r2,r3)):
 Calls Tryz.prog 138 #[.pointer (some ⟨g,0,none⟩)] w fun e w'=>e= .returned (.bool r1)∧eo w0 w' g r2 r3∧Below w0.heap.size w0 w'∧dF w w' g none:=by
 have rz:=ah.mk hI
 have HK:=ah.mk (dF.refl w g none)
 have HL:=ah.mk hB.size
 clear hI
 have HW0:=ah.mk hB.size
 have HB:=ah.mk hB
 clear hB
 have H:((aQ.f k jL gX).bind fun kD=>(if kD.2.1=true then (if 0 < (kD.1.size:Int) then (if (bt kD.1 0)=45 then (some (false,kD.2.2.1,kD.2.2.2)) else (if 0≤(wrap64 ((kD.1.size:Int) - 1)) then (if (wrap64 ((kD.1.size:Int) - 1)) < (kD.1.size:Int) then (some (((bt kD.1 (wrap64 ((kD.1.size:Int) - 1))) != 45),kD.2.2.1,kD.2.2.2)) else (none)) else (none))) else (none)) else (some (false,kD.2.2.1,kD.2.2.2))))=some (r1,r2,r3):=h
 clear h
 obtain ⟨⟨t139,t140,t141,t142⟩,A2,H⟩:=bd_ H
 (try dsimp only at H)
 by_cases c3:t140=true
 ·subst c3
  rw [if_pos rfl] at H
  obtain ⟨c4,H⟩:=lJ H
  have mo:=decide_eq_true c4
  have Aj:decide (0 < t139.size)=true:=decide_eq_true aA
  clear c4
  by_cases c6:(bt t139 0)=45
  ·rw [if_pos c6] at H
   have xW:=beq_iff_eq.mpr c6
   have SR:=bne_eq_false_iff_eq.mpr c6
   clear c6
   simp only [Option.some.injEq,Prod.mk.injEq] at H
   obtain ⟨rfl,rfl,rfl⟩:=H
   go_enter Tryz.func138,Tryz.ntmps138
   go_wp2_with (((with_reducible refine bH (f:=180) rfl ?_);refine dx (some 7) rfl rfl Tryz.func180 aq rfl #[.pointer (some ⟨g,0,none⟩),.func (.func 181) #[] #[]] rfl dI ?_;(with_reducible refine (aQ.calls k g jL gX t139 true t141 t142 w0 _ ?bk ?bM A2.out).mono ?_);(case bk=>repeat ((with_reducible exact rz.out)));(case bM=>repeat ((with_reducible exact HB.out)));rintro e w7 ⟨rfl,hi,hb,hk⟩;refine ⟨_,rfl,?_⟩;replace HK:=ah.mk (dF.trans jV hk (.inl rfl));replace HB:=ah.mk (hb);replace rz:=ah.mk (hi);(try clear hb);(try clear hk);(try clear hi);have p5: 0≤(0:Int):=aA;have q5: 0 < t139.size:=(by have:(0:Int) < (t139.size:Int):=of_decide_eq_true cu;omega);have RA:∀ h: 0 < t139.size,((t139[0]'h).toNat:Int)=bt t139 0:=vw t139 0;clear p5;have qi5:(0 < (t139.size:Int))=True:=eq_true (of_decide_eq_true cu);replace q5:=eq_true q5))
   go_ret
   exact ⟨by rfl,sI,aJ,jV⟩
  ·rw [if_neg c6] at H
   have xW:=beq_eq_false_iff_ne.mpr c6
   have SR:=bne_iff_ne.mpr c6
   obtain ⟨ji8,aed⟩:∃ j_:Int,(wrap64 ((t139.size:Int) - 1))=j_ :=⟨_,rfl⟩
   (rw [aed] at H)
   have ayZ:(IntKind.i64.wrap ((t139.size:Int) - 1))=ji8:=(aU _).trans aed
   obtain ⟨c9,H⟩:=lJ H
   have SY:=decide_eq_true c9
   clear c9
   obtain ⟨c10,H⟩:=lJ H
   have E6:=decide_eq_true c10
   clear c10
   simp only [Option.some.injEq,Prod.mk.injEq] at H
   obtain ⟨rfl,rfl,rfl⟩:=H
   go_enter Tryz.func138,Tryz.ntmps138
   go_wp2_with (((with_reducible refine bH (f:=180) rfl ?_);refine dx (some 7) rfl rfl Tryz.func180 aq rfl #[.pointer (some ⟨g,0,none⟩),.func (.func 181) #[] #[]] rfl dI ?_;(with_reducible refine (aQ.calls k g jL gX t139 true t141 t142 w0 _ ?bk ?bM A2.out).mono ?_);(case bk=>repeat ((with_reducible exact rz.out)));(case bM=>repeat ((with_reducible exact HB.out)));rintro e Cx ⟨rfl,hi,hb,hk⟩;refine ⟨_,rfl,?_⟩;replace HK:=ah.mk (dF.trans jV hk (.inl rfl));replace HB:=ah.mk (hb);replace rz:=ah.mk (hi);(try clear hb);(try clear hk);(try clear hi);have p5: 0≤(0:Int):=aA;have q5: 0 < t139.size:=(by have:(0:Int) < (t139.size:Int):=of_decide_eq_true cu;omega);have RA:∀ h: 0 < t139.size,((t139[0]'h).toNat:Int)=bt t139 0:=vw t139 0;clear p5;have qi5:(0 < (t139.size:Int))=True:=eq_true (of_decide_eq_true cu);replace q5:=eq_true q5;have p11: 0≤((ji8):Int):=of_decide_eq_true cu;have q11:(ji8) < (t139.size:Int):=of_decide_eq_true cu;have aCe:=vw t139 (ji8);replace p11:=eq_true p11;replace q11:=eq_true q11))
   go_ret
   exact ⟨by rfl,sI,aJ,jV⟩
 ·replace c3:=Bool.eq_false_iff.mpr c3
  subst c3
  rw [if_neg (show ¬ (false=true) by decide)] at H
  simp only [Option.some.injEq,Prod.mk.injEq] at H
  obtain ⟨rfl,rfl,rfl⟩:=H
  go_enter Tryz.func138,Tryz.ntmps138
  go_wp2_with (((with_reducible refine bH (f:=180) rfl ?_);refine dx (some 7) rfl rfl Tryz.func180 aq rfl #[.pointer (some ⟨g,0,none⟩),.func (.func 181) #[] #[]] rfl dI ?_;(with_reducible refine (aQ.calls k g jL gX t139 false t141 t142 w0 _ ?bk ?bM A2.out).mono ?_);(case bk=>repeat ((with_reducible exact rz.out)));(case bM=>repeat ((with_reducible exact HB.out)));rintro e ko ⟨rfl,hi,hb,hk⟩;refine ⟨_,rfl,?_⟩;replace HK:=ah.mk (dF.trans jV hk (.inl rfl));replace HB:=ah.mk (hb);replace rz:=ah.mk (hi);(try clear hb);(try clear hk);(try clear hi)))
  go_ret
  exact ⟨by rfl,sI,aJ,jV⟩
end Go.Proofs.YtbjjaaodfbjkfaaGreatDoor.mN
