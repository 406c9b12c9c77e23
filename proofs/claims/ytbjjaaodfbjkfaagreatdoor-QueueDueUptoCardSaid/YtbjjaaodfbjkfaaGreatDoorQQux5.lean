import Derived.Test.YtbjjaaodfbjkfaaGreatDoorESlim
import Derived.Test.YtbjjaaodfbjkfaaGreatDoorQQux1
set_option maxHeartbeats 8000000
set_option maxRecDepth 100000
namespace Go.Proofs.YtbjjaaodfbjkfaaGreatDoor.ow
open Go.RowKit Go.Proofs.YtbjjaaodfbjkfaaGreatDoor.zi Go.Proofs.ak.bY Go.Proofs.ak.dU Go.Proofs.ak.dJ
attribute [local go_sem] jt ju kH kI iw iy jv jw
set_option linter.unusedVariables false
set_option linter.unusedSimpArgs false
attribute [local go_sem high] Q6
def dK.f (bu:Int) (bX:Bool) (cQ:List ByteArray) (bL:ByteArray) (bQ:ByteArray) (b9:Bool) (bT:List (jN)) (cY:List Int) (cg:Int):Option (Bool):=if bu=0 then (if cg=0 then (if bX=true then (some false) else (if (cQ.length:Int)=0 then (if (bL.toList == ([]:List UInt8) && (bQ.toList == ([]:List UInt8) && (!b9)))=true then (some ((wrap64 ((bT.length:Int) + (cY.length:Int))) == 0)) else (some false)) else (some false))) else (some false)) else (some false)
theorem dK.calls (bu:Int) (bX:Bool) (eK:Option Addr) (eN:Nat) (cQ:List ByteArray) (bL:ByteArray) (bQ:ByteArray) (b9:Bool) (dA:Option Addr) (dw:Nat) (bT:List (jN)) (eO:Option Addr) (eP:Nat) (cY:List Int) (cg:Int) (r:Bool) (w:World) (rD:Kd.C Kd.string w eK cQ.length cQ) (rE:cQ.length≤eN) (oc:Kd.C sN w dA bT.length bT) (oG:bT.length≤dw) (rF:Kd.C (Kd.int .u8) w eO cY.length cY) (rG:cY.length≤eP) (h:dK.f bu bX cQ bL bQ b9 bT cY cg=some r):
 Calls Tryz.prog 63 #[.agg #[.int .i64 bu,.bool bX,.slice eK cQ.length eN,.string bL,.string bQ,.bool b9,.slice dA bT.length dw,.slice eO cY.length eP,.int .i64 cg]] w fun e w'=>e= .returned (.bool r)∧Below w.heap.size w w':=by
 have CM:=Tryz.underlying34
 have LW:=Tryz.underlying29
 have og:=ah.mk rD
 have om:=ah.mk rE
 clear rD rE
 have mQ:=ah.mk oc
 have nW:=ah.mk oG
 clear oc oG
 have xp:=ah.mk rF
 have xq:=ah.mk rG
 clear rF rG
 have HB:=ah.mk (Below.refl w.heap.size w)
 have H:(if bu=0 then (if cg=0 then (if bX=true then (some false) else (if (cQ.length:Int)=0 then (if (bL.toList == ([]:List UInt8) && (bQ.toList == ([]:List UInt8) && (!b9)))=true then (some ((wrap64 ((bT.length:Int) + (cY.length:Int))) == 0)) else (some false)) else (some false))) else (some false)) else (some false))=some r:=h
 clear h
 by_cases c2:bu=0
 ·rw [if_pos c2] at H
  have BD:=beq_iff_eq.mpr c2
  have Xc:=bne_eq_false_iff_eq.mpr c2
  clear c2
  by_cases c3:cg=0
  ·rw [if_pos c3] at H
   have nT:=beq_iff_eq.mpr c3
   have tZ:=bne_eq_false_iff_eq.mpr c3
   clear c3
   by_cases c4:bX=true
   ·subst c4
    rw [if_pos rfl] at H
    obtain rfl:=Option.some.inj H
    go_enter Tryz.func63,Tryz.ntmps63
    go_wp2_with (((with_reducible refine bw (N:=1) rfl ?_);(try (refine bO (by rfl) ?_;dsimp only));refine bA ?hg (N:=1) ?hd (cs:=#[.int .i64 bu,.bool true,.slice eK cQ.length eN,.string bL,.string bQ,.bool b9,.slice dA bT.length dw,.slice eO cY.length eP,.int .i64 cg]) (t:=34) ?hr ?_;(case hd=>rfl);(case hg=>rfl);(case hr=>(go_simp;done));intro fL hg w5 bH hb;have dc:=ah.mk (bH);have LZ:=ah.mk ((bG:w.heap.size≤fL));have L1:=ah.mk ((bG:w.heap.size≤fL));replace HB:=ah.mk (av aI hb);clear hb bH hg;have aCu:w5.cell? ⟨fL,0,none⟩=some (.int .i64 bu):=(af dc.out 0).trans rfl;have aCv:w5.cell? ⟨fL,1,none⟩=some (.bool true):=(af dc.out 1).trans rfl;have aCw:w5.cell? ⟨fL,2,none⟩=some (.slice eK cQ.length eN):=(af dc.out 2).trans rfl;have aCx:w5.cell? ⟨fL,3,none⟩=some (.string bL):=(af dc.out 3).trans rfl;have aCy:w5.cell? ⟨fL,4,none⟩=some (.string bQ):=(af dc.out 4).trans rfl;have aCz:w5.cell? ⟨fL,5,none⟩=some (.bool b9):=(af dc.out 5).trans rfl;have aCA:w5.cell? ⟨fL,6,none⟩=some (.slice dA bT.length dw):=(af dc.out 6).trans rfl;have aCB:w5.cell? ⟨fL,7,none⟩=some (.slice eO cY.length eP):=(af dc.out 7).trans rfl;have aCC:w5.cell? ⟨fL,8,none⟩=some (.int .i64 cg):=(af dc.out 8).trans rfl;have aCD:=aa dc.out 0;have aCE:=aa dc.out 1;have aCF:=aa dc.out 2;have aCG:=aa dc.out 3;have aCH:=aa dc.out 4;have aCI:=aa dc.out 5;have aCJ:=aa dc.out 6;have aCK:=aa dc.out 7;have aCL:=aa dc.out 8))
    go_ret
    exact ⟨by rfl,aI⟩
   ·replace c4:=Bool.eq_false_iff.mpr c4
    subst c4
    rw [if_neg (show ¬ (false=true) by decide)] at H
    by_cases c7:(cQ.length:Int)=0
    ·rw [if_pos c7] at H
     have E1:=beq_iff_eq.mpr c7
     have aji:=bne_eq_false_iff_eq.mpr c7
     clear c7
     by_cases c8:(bL.toList == ([]:List UInt8) && (bQ.toList == ([]:List UInt8) && (!b9)))=true
     ·rw [if_pos c8] at H
      obtain ⟨c8f,c8g,c8h⟩:bL.toList= []∧bQ.toList= []∧b9=false:=by simpa using c8
      have yB:(bL.toList == ([]:List UInt8) && (bQ.toList == ([]:List UInt8) && (!b9)))=true:=c8
      (try (have Jy:decide (bL.toList=([]:List UInt8) && (bQ.toList == ([]:List UInt8) && (!b9)))=true:=by simpa using c8))
      (try (have agd:(bL.toList == ([]:List UInt8) && (bQ.toList == ([]:List UInt8) && (!b9)))=true:=by simpa using c8))
      clear c8
      obtain rfl:=Option.some.inj H
      go_enter Tryz.func63,Tryz.ntmps63
      go_wp2_with (((with_reducible refine bw (N:=1) rfl ?_);(try (refine bO (by rfl) ?_;dsimp only));refine bA ?hg (N:=1) ?hd (cs:=#[.int .i64 bu,.bool false,.slice eK cQ.length eN,.string bL,.string bQ,.bool b9,.slice dA bT.length dw,.slice eO cY.length eP,.int .i64 cg]) (t:=34) ?hr ?_;(case hd=>rfl);(case hg=>rfl);(case hr=>(go_simp;done));intro fL hg w9 bH hb;have dc:=ah.mk (bH);have LZ:=ah.mk ((bG:w.heap.size≤fL));have L1:=ah.mk ((bG:w.heap.size≤fL));replace HB:=ah.mk (av aI hb);clear hb bH hg;have Ea:w9.cell? ⟨fL,0,none⟩=some (.int .i64 bu):=(af dc.out 0).trans rfl;have Eb:w9.cell? ⟨fL,1,none⟩=some (.bool false):=(af dc.out 1).trans rfl;have Q7:w9.cell? ⟨fL,2,none⟩=some (.slice eK cQ.length eN):=(af dc.out 2).trans rfl;have Q8:w9.cell? ⟨fL,3,none⟩=some (.string bL):=(af dc.out 3).trans rfl;have Q9:w9.cell? ⟨fL,4,none⟩=some (.string bQ):=(af dc.out 4).trans rfl;have ZZ:w9.cell? ⟨fL,5,none⟩=some (.bool b9):=(af dc.out 5).trans rfl;have Z0:w9.cell? ⟨fL,6,none⟩=some (.slice dA bT.length dw):=(af dc.out 6).trans rfl;have Z1:w9.cell? ⟨fL,7,none⟩=some (.slice eO cY.length eP):=(af dc.out 7).trans rfl;have Z2:w9.cell? ⟨fL,8,none⟩=some (.int .i64 cg):=(af dc.out 8).trans rfl;have Ec:=aa dc.out 0;have Ed:=aa dc.out 1;have Ra:=aa dc.out 2;have Rb:=aa dc.out 3;have Re:=aa dc.out 4;have Z3:=aa dc.out 5;have Z4:=aa dc.out 6;have Z5:=aa dc.out 7;have Z6:=aa dc.out 8))
      go_ret
      exact ⟨by rfl,aI⟩
     ·rw [if_neg c8] at H
      have c8e:(bL.toList= []∧bQ.toList= []∧b9=false)=False:=eq_false (fun ⟨h1_,h2_,h3_⟩=>c8 (by simp [h1_,h2_,h3_]))
      have yB:(bL.toList == ([]:List UInt8) && (bQ.toList == ([]:List UInt8) && (!b9)))=false:=by simpa using c8
      (try (have Jy:decide (bL.toList=([]:List UInt8) && (bQ.toList == ([]:List UInt8) && (!b9)))=false:=by simpa using c8))
      (try (have agd:(bL.toList == ([]:List UInt8) && (bQ.toList == ([]:List UInt8) && (!b9)))=false:=by simpa using c8))
      (try (have aCM: ¬ (bL.toList=([]:List UInt8) && (bQ.toList == ([]:List UInt8) && (!b9))):=by simpa using c8))
      clear c8
      obtain rfl:=Option.some.inj H
      go_enter Tryz.func63,Tryz.ntmps63
      go_wp2_with (((with_reducible refine bw (N:=1) rfl ?_);(try (refine bO (by rfl) ?_;dsimp only));refine bA ?hg (N:=1) ?hd (cs:=#[.int .i64 bu,.bool false,.slice eK cQ.length eN,.string bL,.string bQ,.bool b9,.slice dA bT.length dw,.slice eO cY.length eP,.int .i64 cg]) (t:=34) ?hr ?_;(case hd=>rfl);(case hg=>rfl);(case hr=>(go_simp;done));intro fL hg yj bH hb;have dc:=ah.mk (bH);have LZ:=ah.mk ((bG:w.heap.size≤fL));have L1:=ah.mk ((bG:w.heap.size≤fL));replace HB:=ah.mk (av aI hb);clear hb bH hg;have ya:yj.cell? ⟨fL,0,none⟩=some (.int .i64 bu):=(af dc.out 0).trans rfl;have yc:yj.cell? ⟨fL,1,none⟩=some (.bool false):=(af dc.out 1).trans rfl;have z7:yj.cell? ⟨fL,2,none⟩=some (.slice eK cQ.length eN):=(af dc.out 2).trans rfl;have Dl:yj.cell? ⟨fL,3,none⟩=some (.string bL):=(af dc.out 3).trans rfl;have Dm:yj.cell? ⟨fL,4,none⟩=some (.string bQ):=(af dc.out 4).trans rfl;have Dn:yj.cell? ⟨fL,5,none⟩=some (.bool b9):=(af dc.out 5).trans rfl;have Dp:yj.cell? ⟨fL,6,none⟩=some (.slice dA bT.length dw):=(af dc.out 6).trans rfl;have Dq:yj.cell? ⟨fL,7,none⟩=some (.slice eO cY.length eP):=(af dc.out 7).trans rfl;have Dr:yj.cell? ⟨fL,8,none⟩=some (.int .i64 cg):=(af dc.out 8).trans rfl;have yf:=aa dc.out 0;have yg:=aa dc.out 1;have z8:=aa dc.out 2;have Ds:=aa dc.out 3;have Dt:=aa dc.out 4;have Du:=aa dc.out 5;have Dv:=aa dc.out 6;have Dw:=aa dc.out 7;have Dx:=aa dc.out 8))
      go_ret
      exact ⟨by rfl,aI⟩
    ·rw [if_neg c7] at H
     have E1:=beq_eq_false_iff_ne.mpr c7
     have aji:=bne_iff_ne.mpr c7
     have aJu: ¬ (cQ= []):=fun h_ =>c7 (by rw [h_];rfl)
     obtain rfl:=Option.some.inj H
     go_enter Tryz.func63,Tryz.ntmps63
     go_wp2_with (((with_reducible refine bw (N:=1) rfl ?_);(try (refine bO (by rfl) ?_;dsimp only));refine bA ?hg (N:=1) ?hd (cs:=#[.int .i64 bu,.bool false,.slice eK cQ.length eN,.string bL,.string bQ,.bool b9,.slice dA bT.length dw,.slice eO cY.length eP,.int .i64 cg]) (t:=34) ?hr ?_;(case hd=>rfl);(case hg=>rfl);(case hr=>(go_simp;done));intro fL hg ni bH hb;have dc:=ah.mk (bH);have LZ:=ah.mk ((bG:w.heap.size≤fL));have L1:=ah.mk ((bG:w.heap.size≤fL));replace HB:=ah.mk (av aI hb);clear hb bH hg;have Aa:ni.cell? ⟨fL,0,none⟩=some (.int .i64 bu):=(af dc.out 0).trans rfl;have Ab:ni.cell? ⟨fL,1,none⟩=some (.bool false):=(af dc.out 1).trans rfl;have Dy:ni.cell? ⟨fL,2,none⟩=some (.slice eK cQ.length eN):=(af dc.out 2).trans rfl;have Dz:ni.cell? ⟨fL,3,none⟩=some (.string bL):=(af dc.out 3).trans rfl;have DA:ni.cell? ⟨fL,4,none⟩=some (.string bQ):=(af dc.out 4).trans rfl;have DB:ni.cell? ⟨fL,5,none⟩=some (.bool b9):=(af dc.out 5).trans rfl;have IJ:ni.cell? ⟨fL,6,none⟩=some (.slice dA bT.length dw):=(af dc.out 6).trans rfl;have IK:ni.cell? ⟨fL,7,none⟩=some (.slice eO cY.length eP):=(af dc.out 7).trans rfl;have IL:ni.cell? ⟨fL,8,none⟩=some (.int .i64 cg):=(af dc.out 8).trans rfl;have Ac:=aa dc.out 0;have Ad:=aa dc.out 1;have DC:=aa dc.out 2;have DD:=aa dc.out 3;have DF:=aa dc.out 4;have DG:=aa dc.out 5;have IM:=aa dc.out 6;have IP:=aa dc.out 7;have IQ:=aa dc.out 8))
     go_ret
     exact ⟨by rfl,aI⟩
  ·rw [if_neg c3] at H
   have nT:=beq_eq_false_iff_ne.mpr c3
   have tZ:=bne_iff_ne.mpr c3
   obtain rfl:=Option.some.inj H
   go_enter Tryz.func63,Tryz.ntmps63
   go_wp2_with (((with_reducible refine bw (N:=1) rfl ?_);(try (refine bO (by rfl) ?_;dsimp only));refine bA ?hg (N:=1) ?hd (cs:=#[.int .i64 bu,.bool bX,.slice eK cQ.length eN,.string bL,.string bQ,.bool b9,.slice dA bT.length dw,.slice eO cY.length eP,.int .i64 cg]) (t:=34) ?hr ?_;(case hd=>rfl);(case hg=>rfl);(case hr=>(go_simp;done));intro fL hg wO bH hb;have dc:=ah.mk (bH);have LZ:=ah.mk ((bG:w.heap.size≤fL));have L1:=ah.mk ((bG:w.heap.size≤fL));replace HB:=ah.mk (av aI hb);clear hb bH hg;have Ak:wO.cell? ⟨fL,0,none⟩=some (.int .i64 bu):=(af dc.out 0).trans rfl;have Al:wO.cell? ⟨fL,1,none⟩=some (.bool bX):=(af dc.out 1).trans rfl;have Am:wO.cell? ⟨fL,2,none⟩=some (.slice eK cQ.length eN):=(af dc.out 2).trans rfl;have Ao:wO.cell? ⟨fL,3,none⟩=some (.string bL):=(af dc.out 3).trans rfl;have Ap:wO.cell? ⟨fL,4,none⟩=some (.string bQ):=(af dc.out 4).trans rfl;have Ee:wO.cell? ⟨fL,5,none⟩=some (.bool b9):=(af dc.out 5).trans rfl;have Jz:wO.cell? ⟨fL,6,none⟩=some (.slice dA bT.length dw):=(af dc.out 6).trans rfl;have JA:wO.cell? ⟨fL,7,none⟩=some (.slice eO cY.length eP):=(af dc.out 7).trans rfl;have JB:wO.cell? ⟨fL,8,none⟩=some (.int .i64 cg):=(af dc.out 8).trans rfl;have Aq:=aa dc.out 0;have Ar:=aa dc.out 1;have Au:=aa dc.out 2;have Aw:=aa dc.out 3;have Ax:=aa dc.out 4;have Ef:=aa dc.out 5;have JC:=aa dc.out 6;have JD:=aa dc.out 7;have JE:=aa dc.out 8))
   go_ret
   exact ⟨by rfl,aI⟩
 ·rw [if_neg c2] at H
  have BD:=beq_eq_false_iff_ne.mpr c2
  have Xc:=bne_iff_ne.mpr c2
  obtain rfl:=Option.some.inj H
  go_enter Tryz.func63,Tryz.ntmps63
  go_wp2_with (((with_reducible refine bw (N:=1) rfl ?_);(try (refine bO (by rfl) ?_;dsimp only));refine bA ?hg (N:=1) ?hd (cs:=#[.int .i64 bu,.bool bX,.slice eK cQ.length eN,.string bL,.string bQ,.bool b9,.slice dA bT.length dw,.slice eO cY.length eP,.int .i64 cg]) (t:=34) ?hr ?_;(case hd=>rfl);(case hg=>rfl);(case hr=>(go_simp;done));intro fL hg ud bH hb;have dc:=ah.mk (bH);have LZ:=ah.mk ((bG:w.heap.size≤fL));have L1:=ah.mk ((bG:w.heap.size≤fL));replace HB:=ah.mk (av aI hb);clear hb bH hg;have DI:ud.cell? ⟨fL,0,none⟩=some (.int .i64 bu):=(af dc.out 0).trans rfl;have DJ:ud.cell? ⟨fL,1,none⟩=some (.bool bX):=(af dc.out 1).trans rfl;have DK:ud.cell? ⟨fL,2,none⟩=some (.slice eK cQ.length eN):=(af dc.out 2).trans rfl;have DL:ud.cell? ⟨fL,3,none⟩=some (.string bL):=(af dc.out 3).trans rfl;have DM:ud.cell? ⟨fL,4,none⟩=some (.string bQ):=(af dc.out 4).trans rfl;have IU:ud.cell? ⟨fL,5,none⟩=some (.bool b9):=(af dc.out 5).trans rfl;have Qi:ud.cell? ⟨fL,6,none⟩=some (.slice dA bT.length dw):=(af dc.out 6).trans rfl;have Qj:ud.cell? ⟨fL,7,none⟩=some (.slice eO cY.length eP):=(af dc.out 7).trans rfl;have Qk:ud.cell? ⟨fL,8,none⟩=some (.int .i64 cg):=(af dc.out 8).trans rfl;have DN:=aa dc.out 0;have DR:=aa dc.out 1;have DT:=aa dc.out 2;have DU:=aa dc.out 3;have DV:=aa dc.out 4;have IV:=aa dc.out 5;have Ql:=aa dc.out 6;have Qm:=aa dc.out 7;have Qn:=aa dc.out 8))
  go_ret
  exact ⟨by rfl,aI⟩
def eW (w0 W:World) (g:Nat) (f0:ByteArray) (f1:Int):Prop:=W.heap[g]? =some (.cells #[.string f0,.int .i64 f1] 132 (0,0))∧w0.heap.size≤g
theorem eW.grown {w0 W:World} {g:Nat} {f0:ByteArray} {f1:Int} {W1:World} {row:Option Nat} (h:eW w0 W g f0 f1) (hw:W.grownBy W1 row) (hne:some g≠row):eW w0 W1 g f0 f1:=by
 obtain ⟨hb,hg⟩:=h
 exact ⟨fU hb hw hne,hg⟩
theorem eW.kept {w0 W:World} {g:Nat} {f0:ByteArray} {f1:Int} {W1:World} {S:Nat→Prop} (h:eW w0 W g f0 f1) (hk:Kept W W1 S) (hne: ¬ S g):eW w0 W1 g f0 f1:=by
 obtain ⟨hb,hg⟩:=h
 exact ⟨EO hb hk hne,hg⟩
theorem eW.below {w0 W:World} {g:Nat} {f0:ByteArray} {f1:Int} {W1:World} (h:eW w0 W g f0 f1) (hw:Below W.heap.size W W1):eW w0 W1 g f0 f1:=h.grown (pZ hw none) dz
theorem eW.alloc {w0 W:World} {g:Nat} {f0:ByteArray} {f1:Int} (h:eW w0 W g f0 f1) (o:Obj):eW w0 (W.alloc o) g f0 f1:=h.below (dD (Below.refl _ _) o)
theorem eW.drewN {w0 W:World} {g:Nat} {f0:ByteArray} {f1:Int} (h:eW w0 W g f0 f1) (m:Nat):eW w0 (W.drewN m) g f0 f1:=h
theorem eW.drew {w0 W:World} {g:Nat} {f0:ByteArray} {f1:Int} (h:eW w0 W g f0 f1):eW w0 W.drew g f0 f1:=h
theorem eW.at_ {w0 W:World} {g:Nat} {f0:ByteArray} {f1:Int} {w':World} {m:Nat} (hq:W.drewN m=w') (h:eW w0 W g f0 f1):eW w0 w' g f0 f1:=by subst hq;exact eW.drewN h m
theorem eW.apart {w0 W:World} {g:Nat} {f0:ByteArray} {f1:Int} {α:Type} {d:Kd α} {e:Nat} {base:Nat} {ok:Nat→Prop} {v:Value} {xs:List α} (h:eW w0 W g f0 f1) (ho:d.R e W base ok v xs) (ht:∀ q,q∈e :: d.E→q≠132):d.R e W base (fun k=>ok k∧k≠g) v xs:=by
 obtain ⟨hb,hg⟩:=h
 exact Kd.cS ho hb ht
theorem eW.own_ne {w0 W:World} {g:Nat} {f0:ByteArray} {f1:Int} {α:Type} {d:Kd α} {e:Nat} {base:Nat} {ok:Nat→Prop} {v:Value} {xs:List α} (h:eW w0 W g f0 f1) (ho:d.R e W base ok v xs) (ht:e≠132):some g≠v.ownBlock:=by
 obtain ⟨hb,hg⟩:=h
 exact Kd.vq ho hb ht
theorem eW.ge {w0 W:World} {g:Nat} {f0:ByteArray} {f1:Int} (h:eW w0 W g f0 f1):w0.heap.size≤g:=by
 obtain ⟨hb,hg⟩:=h
 exact hg
theorem eW.far {w0 W:World} {g:Nat} {f0:ByteArray} {f1:Int} {p:Addr} (h:eW w0 W g f0 f1) (hne:g≠p.block) (u:Value):eW w0 (W.setCell p u) g f0 f1:=by
 obtain ⟨hb,hg⟩:=h
 exact ⟨aR hb hne u,hg⟩
theorem kY {W:World} {g:Nat} {f0:ByteArray} {f1:Int} (h:W.heap[g]? =some (.cells #[.string f0,.int .i64 f1] 132 (0,0))):W.cell? ⟨g,0,none⟩=some (.string f0):=(af h 0).trans rfl
theorem kZ {W:World} {g:Nat} {f0:ByteArray} {f1:Int} (h:W.heap[g]? =some (.cells #[.string f0,.int .i64 f1] 132 (0,0))):W.cell? ⟨g,1,none⟩=some (.int .i64 f1):=(af h 1).trans rfl
theorem eW.aiI {w0 W:World} {g:Nat} {f0:ByteArray} {f1:Int} (h:eW w0 W g f0 f1) (x:Int):eW w0 (W.setCell ⟨g,1,none⟩ (.int .i64 x)) g f0 x:=by
 obtain ⟨hb,hg⟩:=h
 exact ⟨by simpa using Ip hb 1 (.int .i64 x),hg⟩
def jO.f (kK:ByteArray) (iK:Int) (a1:Int):Option (Bool×ByteArray×Int):=if iK < (kK.size:Int) then (if 0≤iK then (if (bt kK iK)=a1 then (some (true,kK,wrap64 (iK + 1))) else (some (false,kK,iK))) else (none)) else (some (false,kK,iK))
theorem jO.calls (g:Nat) (kK:ByteArray) (iK:Int) (a1:Int) (r1:Bool) (r2:ByteArray) (r3:Int) (w0 w:World) (hI:eW w0 w g kK iK) (hB:Below w0.heap.size w0 w) (h:jO.f kK iK a1=some (r1,r2,r3)):
 Calls Tryz.prog 179 #[.pointer (some ⟨g,0,none⟩),.int .u8 a1] w fun e w'=>e= .returned (.bool r1)∧eW w0 w' g r2 r3∧Below w0.heap.size w0 w'∧dW w w' g none:=by
 have sU:=ah.mk hI
 have HK:=ah.mk (dW.refl w g none)
 have HL:=ah.mk hB.size
 clear hI
 have HW0:=ah.mk hB.size
 have HB:=ah.mk hB
 clear hB
 have H:(if iK < (kK.size:Int) then (if 0≤iK then (if (bt kK iK)=a1 then (some (true,kK,wrap64 (iK + 1))) else (some (false,kK,iK))) else (none)) else (some (false,kK,iK)))=some (r1,r2,r3):=h
 clear h
 by_cases c3:iK < (kK.size:Int)
 ·rw [if_pos c3] at H
  have nT:=decide_eq_true c3
  clear c3
  obtain ⟨c4,H⟩:=lg H
  have ng:=decide_eq_true c4
  clear c4
  by_cases c6:(bt kK iK)=a1
  ·rw [if_pos c6] at H
   have xm:=beq_iff_eq.mpr c6
   have UX:=bne_eq_false_iff_eq.mpr c6
   clear c6
   simp only [Option.some.injEq,Prod.mk.injEq] at H
   obtain ⟨rfl,rfl,rfl⟩:=H
   obtain ⟨E2,age⟩:=sU.out
   have JF:=kY E2
   have JG:=kZ E2
   have JH:=aa E2 0
   have JI:=aa E2 1
   clear E2 age
   have p5: 0≤(iK:Int):=of_decide_eq_true cL
   have q5:iK < (kK.size:Int):=of_decide_eq_true cL
   have VT:=wL kK iK
   replace p5:=eq_true p5
   replace q5:=eq_true q5
   go_enter Tryz.func179,Tryz.ntmps179
   go_wp2
   repeat (go_quiet (fail);try go_wp2)
   go_ret
   exact ⟨by rfl,PR,PK,PT⟩
  ·rw [if_neg c6] at H
   have xm:=beq_eq_false_iff_ne.mpr c6
   have UX:=bne_iff_ne.mpr c6
   simp only [Option.some.injEq,Prod.mk.injEq] at H
   obtain ⟨rfl,rfl,rfl⟩:=H
   obtain ⟨E3,agf⟩:=sU.out
   have ES:=kY E3
   have ET:=kZ E3
   have EU:=aa E3 0
   have EW:=aa E3 1
   clear E3 agf
   have p5: 0≤(iK:Int):=of_decide_eq_true cL
   have q5:iK < (kK.size:Int):=of_decide_eq_true cL
   have VT:=wL kK iK
   replace p5:=eq_true p5
   replace q5:=eq_true q5
   go_enter Tryz.func179,Tryz.ntmps179
   go_wp2
   repeat (go_quiet (fail);try go_wp2)
   go_ret
   exact ⟨by rfl,C4,eB,C6⟩
 ·rw [if_neg c3] at H
  have nT:=decide_eq_false c3
  clear c3
  simp only [Option.some.injEq,Prod.mk.injEq] at H
  obtain ⟨rfl,rfl,rfl⟩:=H
  obtain ⟨E4,agh⟩:=sU.out
  have BF:=kY E4
  have BG:=kZ E4
  have BH:=aa E4 0
  have BI:=aa E4 1
  clear E4 agh
  go_enter Tryz.func179,Tryz.ntmps179
  go_wp2
  repeat (go_quiet (fail);try go_wp2)
  go_ret
  exact ⟨by rfl,C4,eB,C6⟩
def oo.f (a0:Int):Option (Bool):=if a0≥97 then (if a0≤122 then (some true) else (if a0≥65 then (some (decide (a0≤90))) else (some false))) else (if a0≥65 then (some (decide (a0≤90))) else (some false))
theorem oo.calls (a0:Int) (r:Bool) (w:World) (h:oo.f a0=some r):
 Calls Tryz.prog 182 #[.int .u8 a0] w fun e w'=>e= .returned (.bool r)∧ia w w':=by
 have H:(if a0≥97 then (if a0≤122 then (some true) else (if a0≥65 then (some (decide (a0≤90))) else (some false))) else (if a0≥65 then (some (decide (a0≤90))) else (some false)))=some r:=h
 clear h
 by_cases c2:a0≥97
 ·rw [if_pos c2] at H
  have BD:decide (97≤a0)=true:=decide_eq_true c2
  clear c2
  by_cases c3:a0≤122
  ·rw [if_pos c3] at H
   have nT:=decide_eq_true c3
   clear c3
   obtain rfl:=Option.some.inj H
   go_enter Tryz.func182,Tryz.ntmps182
   go_wp2
   go_ret
   exact ⟨by rfl,mj⟩
  ·rw [if_neg c3] at H
   have nT:=decide_eq_false c3
   clear c3
   by_cases c4:a0≥65
   ·rw [if_pos c4] at H
    have ng:decide (65≤a0)=true:=decide_eq_true c4
    clear c4
    obtain rfl:=Option.some.inj H
    go_enter Tryz.func182,Tryz.ntmps182
    go_wp2
    go_ret
    exact ⟨by rfl,mj⟩
   ·rw [if_neg c4] at H
    have ng:decide (65≤a0)=false:=decide_eq_false c4
    clear c4
    obtain rfl:=Option.some.inj H
    go_enter Tryz.func182,Tryz.ntmps182
    go_wp2
    go_ret
    exact ⟨by rfl,mj⟩
 ·rw [if_neg c2] at H
  have BD:decide (97≤a0)=false:=decide_eq_false c2
  clear c2
  by_cases c5:a0≥65
  ·rw [if_pos c5] at H
   have qu:decide (65≤a0)=true:=decide_eq_true c5
   clear c5
   obtain rfl:=Option.some.inj H
   go_enter Tryz.func182,Tryz.ntmps182
   go_wp2
   go_ret
   exact ⟨by rfl,mj⟩
  ·rw [if_neg c5] at H
   have qu:decide (65≤a0)=false:=decide_eq_false c5
   clear c5
   obtain rfl:=Option.some.inj H
   go_enter Tryz.func182,Tryz.ntmps182
   go_wp2
   go_ret
   exact ⟨by rfl,mj⟩
def qD.f (a0:Int):Option (Bool):=if a0≥48 then (some (decide (a0≤57))) else (some false)
theorem qD.calls (a0:Int) (r:Bool) (w:World) (h:qD.f a0=some r):
 Calls Tryz.prog 183 #[.int .u8 a0] w fun e w'=>e= .returned (.bool r)∧ia w w':=by
 have H:(if a0≥48 then (some (decide (a0≤57))) else (some false))=some r:=h
 clear h
 by_cases c2:a0≥48
 ·rw [if_pos c2] at H
  have BD:decide (48≤a0)=true:=decide_eq_true c2
  clear c2
  obtain rfl:=Option.some.inj H
  go_enter Tryz.func183,Tryz.ntmps183
  go_wp2
  go_ret
  exact ⟨by rfl,mj⟩
 ·rw [if_neg c2] at H
  have BD:decide (48≤a0)=false:=decide_eq_false c2
  clear c2
  obtain rfl:=Option.some.inj H
  go_enter Tryz.func183,Tryz.ntmps183
  go_wp2
  go_ret
  exact ⟨by rfl,mj⟩
def gj.f (a0:Int):Option (Bool):=(oo.f a0).bind fun t136=>(if t136=true then (some true) else ((qD.f a0).bind fun t137=>(if t137=true then (some true) else (some (a0 == 45)))))
theorem gj.calls (a0:Int) (r:Bool) (w:World) (h:gj.f a0=some r):
 Calls Tryz.prog 181 #[.int .u8 a0] w fun e w'=>e= .returned (.bool r)∧ia w w':=by
 have H:((oo.f a0).bind fun t136=>(if t136=true then (some true) else ((qD.f a0).bind fun t137=>(if t137=true then (some true) else (some (a0 == 45))))))=some r:=h
 clear h
 obtain ⟨t136,A2,H⟩:=bd_ H
 by_cases c3:t136=true
 ·subst c3
  rw [if_pos rfl] at H
  obtain rfl:=Option.some.inj H
  go_enter Tryz.func181,Tryz.ntmps181
  go_wp2_with (((with_reducible refine bE (f:=182) rfl ?_);refine dg (some 4) rfl rfl Tryz.func182 au rfl #[.int .u8 a0] rfl dM ?_;(with_reducible refine (oo.calls a0 true _ A2.out).mono ?_);rintro e w' ⟨rfl,⟨nd,rfl⟩⟩;refine ⟨_,rfl,?_⟩))
  go_ret
  exact ⟨by rfl,jl⟩
 ·replace c3:=Bool.eq_false_iff.mpr c3
  subst c3
  rw [if_neg (show ¬ (false=true) by decide)] at H
  obtain ⟨t137,A4,H⟩:=bd_ H
  by_cases c5:t137=true
  ·subst c5
   rw [if_pos rfl] at H
   obtain rfl:=Option.some.inj H
   go_enter Tryz.func181,Tryz.ntmps181
   go_wp2_with (first|((with_reducible refine bE (f:=182) rfl ?_);refine dg (some 4) rfl rfl Tryz.func182 au rfl #[.int .u8 a0] rfl dM ?_;(with_reducible refine (oo.calls a0 false _ A2.out).mono ?_);rintro e w' ⟨rfl,⟨nd,rfl⟩⟩;refine ⟨_,rfl,?_⟩)|(go_at_call 183;(with_reducible refine (qD.calls a0 true _ A4.out).mono ?_);rintro e w' ⟨rfl,⟨nd,rfl⟩⟩))
   go_ret
   exact ⟨by rfl,jl⟩
  ·replace c5:=Bool.eq_false_iff.mpr c5
   subst c5
   rw [if_neg (show ¬ (false=true) by decide)] at H
   obtain rfl:=Option.some.inj H
   go_enter Tryz.func181,Tryz.ntmps181
   go_wp2_with (first|((with_reducible refine bE (f:=182) rfl ?_);refine dg (some 4) rfl rfl Tryz.func182 au rfl #[.int .u8 a0] rfl dM ?_;(with_reducible refine (oo.calls a0 false _ A2.out).mono ?_);rintro e w' ⟨rfl,⟨nd,rfl⟩⟩;refine ⟨_,rfl,?_⟩)|(go_at_call 183;(with_reducible refine (qD.calls a0 false _ A4.out).mono ?_);rintro e w' ⟨rfl,⟨nd,rfl⟩⟩))
   go_ret
   exact ⟨by rfl,jl⟩
def aU.l0:Nat→Int→ByteArray→Int→Option (ByteArray×Bool×ByteArray×Int)
 | 0,_,_,_ =>none
 |k + 1,x6,xu,rH=>if rH < (xu.size:Int) then (if 0≤rH then ((gj.f (bt xu rH)).bind fun t138=>(if t138=true then (aU.l0 k x6 xu (wrap64 (rH + 1))) else (if 0≤x6 then (if x6≤rH then (if rH≤(xu.size:Int) then (some (xu.extract (x6:Int).toNat (rH:Int).toNat,decide (rH > x6),xu,rH)) else (none)) else (none)) else (none)))) else (none)) else (if 0≤x6 then (if x6≤rH then (if rH≤(xu.size:Int) then (some (xu.extract (x6:Int).toNat (rH:Int).toNat,decide (rH > x6),xu,rH)) else (none)) else (none)) else (none))
def aU.f (k:Nat) (kK:ByteArray) (iK:Int):Option (ByteArray×Bool×ByteArray×Int):=aU.l0 k iK kK iK
theorem aU.eY:∀ k,(∀ y0 y1 y2,fP (aU.l0 k y0 y1 y2) (aU.l0 (k + 1) y0 y1 y2))
 | 0=>fun _ _ _ r h=>by simp [aU.l0] at h
 |k + 1=>by
  have nY:=aU.eY k
  ·intro y0 y1 y2
   unfold aU.l0
   repeat' (with_reducible first|exact nY _ _ _|exact fP.refl _|refine fP.ite ?_ ?_|refine fP.bind ?_ (fun _ =>?_))
theorem aU.mono:∀ a0 a1 k,fP (aU.f k a0 a1) (aU.f (k + 1) a0 a1):=by
 intro a0 a1 k
 have nY:=aU.eY k
 unfold aU.f
 repeat' (with_reducible exact nY _ _ _)
theorem aU.calls (k:Nat) (g:Nat) (kK:ByteArray) (iK:Int) (r1:ByteArray) (r2:Bool) (r3:ByteArray) (r4:Int) (w0 w:World) (hI:eW w0 w g kK iK) (hB:Below w0.heap.size w0 w) (h:aU.f k kK iK=some (r1,r2,r3,r4)):
 Calls Tryz.prog 180 #[.pointer (some ⟨g,0,none⟩),.func (.func 181) #[] #[]] w fun e w'=>e= .returned (.tuple #[.string r1,.bool r2])∧eW w0 w' g r3 r4∧Below w0.heap.size w0 w'∧dW w w' g none:=by
 have sU:=ah.mk hI
 have HK:=ah.mk (dW.refl w g none)
 have HL:=ah.mk hB.size
 clear hI
 have HW0:=ah.mk hB.size
 have HB:=ah.mk hB
 clear hB
 have H:(aU.l0 k iK kK iK)=some (r1,r2,r3,r4):=h
 clear h
 have H':=ah.mk H
 clear H
 obtain ⟨Xd,aCN⟩:=sU.out
 have WY:=kY Xd
 have WZ:=kZ Xd
 have W4:=aa Xd 0
 have W5:=aa Xd 1
 clear Xd aCN
 go_enter Tryz.func180,Tryz.ntmps180
 go_wp2
 repeat (go_quiet (fail);skip)
 go_loopg [] k (fun kq w'=>∃ (lq:ByteArray) (jW:Int),ah (aU.l0 kq iK lq jW=some (r1,r2,r3,r4))∧ah (kq≤k)∧ah (eW w0 w' g lq jW)∧ah (dW w w' g none)∧ah (Below w0.heap.size w0 w'))
 case atStart=>exact ⟨(kK),(iK),H',⟨Nat.le_refl _⟩,⟨tU⟩,⟨kU⟩,⟨aI⟩⟩
 case round=>
  clear H'
  obtain ⟨lq,jW,HA,oI,sU,HK,HB⟩:=hrel
  cases gk with
  |zero=>exact absurd HA.out (by simp [aU.l0])
  |succ k1=>
   have H:=HA.out
   clear HA
   simp only [aU.l0] at H
   by_cases c4:jW < (lq.size:Int)
   ·rw [if_pos c4] at H
    have ng:=decide_eq_true c4
    clear c4
    obtain ⟨c5,H⟩:=lg H
    have qu:=decide_eq_true c5
    clear c5
    obtain ⟨t138,A7,H⟩:=bd_ H
    by_cases c8:t138=true
    ·subst c8
     rw [if_pos rfl] at H
     have H':=ah.mk H
     clear H
     obtain ⟨E4,agh⟩:=sU.out
     have BF:=kY E4
     have BG:=kZ E4
     have BH:=aa E4 0
     have BI:=aa E4 1
     clear E4 agh
     have p6: 0≤(jW:Int):=of_decide_eq_true cL
     have q6:jW < (lq.size:Int):=of_decide_eq_true cL
     have Xe:=wL lq jW
     replace p6:=eq_true p6
     replace q6:=eq_true q6
     go_wp2_with (fail)
     repeat (go_quiet ((go_at_call 181;(with_reducible refine (gj.calls (bt lq jW) true _ A7.out).mono ?_);rintro e w' ⟨rfl,⟨nd,rfl⟩⟩;(try exact ⟨rfl,_,World.drewN_drewN _ _ _⟩)));try go_wp2_with (fail))
     go_roundg k1
     case measure=>have:=oI.out;omega
     case rel=>exact ⟨(lq),(wrap64 (jW + 1)),H',⟨lS⟩,⟨PR⟩,⟨PT⟩,⟨PK⟩⟩
    ·replace c8:=Bool.eq_false_iff.mpr c8
     subst c8
     rw [if_neg (show ¬ (false=true) by decide)] at H
     obtain ⟨c10,H⟩:=lg H
     have GM:=eq_true c10
     have aeT:=decide_eq_true c10
     clear c10
     obtain ⟨c11,H⟩:=lg H
     have EX:=eq_true c11
     have aFL:=decide_eq_true c11
     clear c11
     obtain ⟨c12,H⟩:=lg H
     have L8:=eq_true c12
     have Xf:=decide_eq_true c12
     clear c12
     simp only [Option.some.injEq,Prod.mk.injEq] at H
     obtain ⟨rfl,rfl,rfl,rfl⟩:=H
     obtain ⟨Ma,ajm⟩:=sU.out
     have Z7:=kY Ma
     have Z8:=kZ Ma
     have Z9:=aa Ma 0
     have aaa:=aa Ma 1
     clear Ma ajm
     have p6: 0≤(jW:Int):=of_decide_eq_true cL
     have q6:jW < (lq.size:Int):=of_decide_eq_true cL
     have Xe:=wL lq jW
     replace p6:=eq_true p6
     replace q6:=eq_true q6
     go_wp2_with (fail)
     repeat (go_quiet ((go_at_call 181;(with_reducible refine (gj.calls (bt lq jW) false _ A7.out).mono ?_);rintro e w' ⟨rfl,⟨nd,rfl⟩⟩;(try exact ⟨rfl,_,World.drewN_drewN _ _ _⟩)));try go_wp2_with (fail))
     go_ret2
     exact ⟨by rfl,C4,eB,C6⟩
   ·rw [if_neg c4] at H
    have ng:=decide_eq_false c4
    clear c4
    obtain ⟨c14,H⟩:=lg H
    have Mb:=eq_true c14
    have Xg:=decide_eq_true c14
    clear c14
    obtain ⟨c15,H⟩:=lg H
    have Xh:=eq_true c15
    have aFM:=decide_eq_true c15
    clear c15
    obtain ⟨c16,H⟩:=lg H
    have ajn:=eq_true c16
    have aFN:=decide_eq_true c16
    clear c16
    simp only [Option.some.injEq,Prod.mk.injEq] at H
    obtain ⟨rfl,rfl,rfl,rfl⟩:=H
    obtain ⟨Mc,ajo⟩:=sU.out
    have Zo:=kY Mc
    have Zp:=kZ Mc
    have Zq:=aa Mc 0
    have Zr:=aa Mc 1
    clear Mc ajo
    go_wp2
    repeat (go_quiet (fail);try go_wp2)
    go_ret2
    exact ⟨by rfl,C4,eB,C6⟩
def fS.f (k:Nat) (kK:ByteArray) (iK:Int):Option (Bool×ByteArray×Int):=(aU.f k kK iK).bind fun lO=>(if lO.2.1=true then (if 0 < (lO.1.size:Int) then (if (bt lO.1 0)=45 then (some (false,lO.2.2.1,lO.2.2.2)) else (if 0≤(wrap64 ((lO.1.size:Int) - 1)) then (if (wrap64 ((lO.1.size:Int) - 1)) < (lO.1.size:Int) then (some (((bt lO.1 (wrap64 ((lO.1.size:Int) - 1))) != 45),lO.2.2.1,lO.2.2.2)) else (none)) else (none))) else (none)) else (some (false,lO.2.2.1,lO.2.2.2)))
theorem fS.mono:∀ a0 a1 k,fP (fS.f k a0 a1) (fS.f (k + 1) a0 a1):=by
 intro a0 a1 k
 unfold fS.f
 repeat' (with_reducible first|exact aU.mono _ _ _|exact fP.refl _|refine fP.bind ?_ (fun _ =>?_))
theorem fS.calls (k:Nat) (g:Nat) (kK:ByteArray) (iK:Int) (r1:Bool) (r2:ByteArray) (r3:Int) (w0 w:World) (hI:eW w0 w g kK iK) (hB:Below w0.heap.size w0 w) (h:fS.f k kK iK=some (r1,r2,r3)):
 Calls Tryz.prog 138 #[.pointer (some ⟨g,0,none⟩)] w fun e w'=>e= .returned (.bool r1)∧eW w0 w' g r2 r3∧Below w0.heap.size w0 w'∧dW w w' g none:=by
 have sU:=ah.mk hI
 have HK:=ah.mk (dW.refl w g none)
 have HL:=ah.mk hB.size
 clear hI
 have HW0:=ah.mk hB.size
 have HB:=ah.mk hB
 clear hB
 have H:((aU.f k kK iK).bind fun lO=>(if lO.2.1=true then (if 0 < (lO.1.size:Int) then (if (bt lO.1 0)=45 then (some (false,lO.2.2.1,lO.2.2.2)) else (if 0≤(wrap64 ((lO.1.size:Int) - 1)) then (if (wrap64 ((lO.1.size:Int) - 1)) < (lO.1.size:Int) then (some (((bt lO.1 (wrap64 ((lO.1.size:Int) - 1))) != 45),lO.2.2.1,lO.2.2.2)) else (none)) else (none))) else (none)) else (some (false,lO.2.2.1,lO.2.2.2))))=some (r1,r2,r3):=h
 clear h
 obtain ⟨⟨t139,t140,t141,t142⟩,A2,H⟩:=bd_ H
 (try dsimp only at H)
 by_cases c3:t140=true
 ·subst c3
  rw [if_pos rfl] at H
  obtain ⟨c4,H⟩:=lg H
  have ng:=decide_eq_true c4
  have BC:decide (0 < t139.size)=true:=decide_eq_true aA
  clear c4
  by_cases c6:(bt t139 0)=45
  ·rw [if_pos c6] at H
   have xm:=beq_iff_eq.mpr c6
   have UX:=bne_eq_false_iff_eq.mpr c6
   clear c6
   simp only [Option.some.injEq,Prod.mk.injEq] at H
   obtain ⟨rfl,rfl,rfl⟩:=H
   go_enter Tryz.func138,Tryz.ntmps138
   go_wp2_with (((with_reducible refine bE (f:=180) rfl ?_);refine dg (some 7) rfl rfl Tryz.func180 au rfl #[.pointer (some ⟨g,0,none⟩),.func (.func 181) #[] #[]] rfl dM ?_;(with_reducible refine (aU.calls k g kK iK t139 true t141 t142 w0 _ ?bk ?bI A2.out).mono ?_);(case bk=>repeat ((with_reducible exact sU.out)));(case bI=>repeat ((with_reducible exact HB.out)));rintro e w7 ⟨rfl,hi,hb,hk⟩;refine ⟨_,rfl,?_⟩;replace HK:=ah.mk (dW.trans kU hk (.inl rfl));replace HB:=ah.mk (hb);replace sU:=ah.mk (hi);(try clear hb);(try clear hk);(try clear hi);have p5: 0≤(0:Int):=aA;have q5: 0 < t139.size:=(by have:(0:Int) < (t139.size:Int):=of_decide_eq_true cL;omega);have VT:∀ h: 0 < t139.size,((t139[0]'h).toNat:Int)=bt t139 0:=wL t139 0;clear p5;have qi5:(0 < (t139.size:Int))=True:=eq_true (of_decide_eq_true cL);replace q5:=eq_true q5))
   go_ret
   exact ⟨by rfl,tU,aI,kU⟩
  ·rw [if_neg c6] at H
   have xm:=beq_eq_false_iff_ne.mpr c6
   have UX:=bne_iff_ne.mpr c6
   obtain ⟨ji8,ajp⟩:∃ j_:Int,(wrap64 ((t139.size:Int) - 1))=j_ :=⟨_,rfl⟩
   (rw [ajp] at H)
   have aFO:(IntKind.i64.wrap ((t139.size:Int) - 1))=ji8:=(aY _).trans ajp
   obtain ⟨c9,H⟩:=lg H
   have af9:=decide_eq_true c9
   clear c9
   obtain ⟨c10,H⟩:=lg H
   have GM:=decide_eq_true c10
   clear c10
   simp only [Option.some.injEq,Prod.mk.injEq] at H
   obtain ⟨rfl,rfl,rfl⟩:=H
   go_enter Tryz.func138,Tryz.ntmps138
   go_wp2_with (((with_reducible refine bE (f:=180) rfl ?_);refine dg (some 7) rfl rfl Tryz.func180 au rfl #[.pointer (some ⟨g,0,none⟩),.func (.func 181) #[] #[]] rfl dM ?_;(with_reducible refine (aU.calls k g kK iK t139 true t141 t142 w0 _ ?bk ?bI A2.out).mono ?_);(case bk=>repeat ((with_reducible exact sU.out)));(case bI=>repeat ((with_reducible exact HB.out)));rintro e BJ ⟨rfl,hi,hb,hk⟩;refine ⟨_,rfl,?_⟩;replace HK:=ah.mk (dW.trans kU hk (.inl rfl));replace HB:=ah.mk (hb);replace sU:=ah.mk (hi);(try clear hb);(try clear hk);(try clear hi);have p5: 0≤(0:Int):=aA;have q5: 0 < t139.size:=(by have:(0:Int) < (t139.size:Int):=of_decide_eq_true cL;omega);have VT:∀ h: 0 < t139.size,((t139[0]'h).toNat:Int)=bt t139 0:=wL t139 0;clear p5;have qi5:(0 < (t139.size:Int))=True:=eq_true (of_decide_eq_true cL);replace q5:=eq_true q5;have p11: 0≤((ji8):Int):=of_decide_eq_true cL;have q11:(ji8) < (t139.size:Int):=of_decide_eq_true cL;have aJw:=wL t139 (ji8);replace p11:=eq_true p11;replace q11:=eq_true q11))
   go_ret
   exact ⟨by rfl,tU,aI,kU⟩
 ·replace c3:=Bool.eq_false_iff.mpr c3
  subst c3
  rw [if_neg (show ¬ (false=true) by decide)] at H
  simp only [Option.some.injEq,Prod.mk.injEq] at H
  obtain ⟨rfl,rfl,rfl⟩:=H
  go_enter Tryz.func138,Tryz.ntmps138
  go_wp2_with (((with_reducible refine bE (f:=180) rfl ?_);refine dg (some 7) rfl rfl Tryz.func180 au rfl #[.pointer (some ⟨g,0,none⟩),.func (.func 181) #[] #[]] rfl dM ?_;(with_reducible refine (aU.calls k g kK iK t139 false t141 t142 w0 _ ?bk ?bI A2.out).mono ?_);(case bk=>repeat ((with_reducible exact sU.out)));(case bI=>repeat ((with_reducible exact HB.out)));rintro e ni ⟨rfl,hi,hb,hk⟩;refine ⟨_,rfl,?_⟩;replace HK:=ah.mk (dW.trans kU hk (.inl rfl));replace HB:=ah.mk (hb);replace sU:=ah.mk (hi);(try clear hb);(try clear hk);(try clear hi)))
  go_ret
  exact ⟨by rfl,tU,aI,kU⟩
end Go.Proofs.YtbjjaaodfbjkfaaGreatDoor.ow
