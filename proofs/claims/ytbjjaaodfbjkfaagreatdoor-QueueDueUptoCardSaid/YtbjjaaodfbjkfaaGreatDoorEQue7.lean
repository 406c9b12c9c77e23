import Derived.Test.YtbjjaaodfbjkfaaGreatDoorEQue5
import Derived.Test.YtbjjaaodfbjkfaaGreatDoorESettled
import Derived.Test.YtbjjaaodfbjkfaaGreatDoorQQux13
namespace Go.Proofs.YtbjjaaodfbjkfaaGreatDoor.ow
open Go.RowKit Go.Proofs.ak.bY Go.Proofs.ak.dU Go.Proofs.ak.dJ
set_option linter.unusedVariables false
set_option linter.unusedSimpArgs false
structure CW (w0 w W:World) (gq gm i:Nat) (n:Int) (v:Value) (ms:List Ml) (m x:Ml) (A2:Option Addr) (c2:Nat) (A6:Option Addr) (c6:Nat) (A7:Option Addr) (c7:Nat) (B2:Option Addr) (d2:Nat) (B6:Option Addr) (d6:Nat) (B7:Option Addr) (d7:Nat):Prop where
 bl:Below w.heap.size w W
 hq:QW w0 W gq n v ms
 q0:W.cell? ⟨gq,0,none⟩=some (.int .i64 n)
 q1:W.cell? ⟨gq,1,none⟩=some v
 c0:W.cell? ⟨w.heap.size,4,none⟩=some (.int .i64 m.f0)
 c1:W.cell? ⟨w.heap.size,5,none⟩=some (.bool m.f1.f0)
 c2:W.cell? ⟨w.heap.size,6,none⟩=some (.slice A2 m.f1.f1.length c2)
 c3:W.cell? ⟨w.heap.size,7,none⟩=some (.string m.f1.f2.f0)
 c4:W.cell? ⟨w.heap.size,8,none⟩=some (.string m.f1.f2.f1)
 c5:W.cell? ⟨w.heap.size,9,none⟩=some (.bool m.f1.f2.f2)
 c6:W.cell? ⟨w.heap.size,10,none⟩=some (.slice A6 m.f2.length c6)
 c7:W.cell? ⟨w.heap.size,11,none⟩=some (.slice A7 m.f3.length c7)
 c8:W.cell? ⟨w.heap.size,12,none⟩=some (.int .i64 m.f4)
 x0:W.cell? ⟨gm,i * 9,none⟩=some (.int .i64 x.f0)
 x1:W.cell? ⟨gm,i * 9 + 1,none⟩=some (.bool x.f1.f0)
 x2:W.cell? ⟨gm,i * 9 + 2,none⟩=some (.slice B2 x.f1.f1.length d2)
 x3:W.cell? ⟨gm,i * 9 + 3,none⟩=some (.string x.f1.f2.f0)
 x4:W.cell? ⟨gm,i * 9 + 4,none⟩=some (.string x.f1.f2.f1)
 x5:W.cell? ⟨gm,i * 9 + 5,none⟩=some (.bool x.f1.f2.f2)
 x6:W.cell? ⟨gm,i * 9 + 6,none⟩=some (.slice B6 x.f2.length d6)
 x7:W.cell? ⟨gm,i * 9 + 7,none⟩=some (.slice B7 x.f3.length d7)
 x8:W.cell? ⟨gm,i * 9 + 8,none⟩=some (.int .i64 x.f4)
theorem CW.below {w0 w W W1:World} {gq gm i:Nat} {n:Int} {v:Value} {ms:List Ml} {m x:Ml} {A2:Option Addr} {c2:Nat} {A6:Option Addr} {c6:Nat} {A7:Option Addr} {c7:Nat} {B2:Option Addr} {d2:Nat} {B6:Option Addr} {d6:Nat} {B7:Option Addr} {d7:Nat}
 (h:CW w0 w W gq gm i n v ms m x A2 c2 A6 c6 A7 c7 B2 d2 B6 d6 B7 d7) (hb:Below W.heap.size W W1):CW w0 w W1 gq gm i n v ms m x A2 c2 A6 c6 A7 c7 B2 d2 B6 d6 B7 d7:=
 have g:=fun {a:Addr} {u:Value} (hc:W.cell? a=some u)=>nE hb hc
 ⟨fY h.bl h.bl.size hb,h.hq.below hb,g h.q0,g h.q1,g h.c0,g h.c1,g h.c2,g h.c3,g h.c4,g h.c5,g h.c6,g h.c7,g h.c8,g h.x0,g h.x1,g h.x2,g h.x3,g h.x4,g h.x5,g h.x6,g h.x7,g h.x8⟩
variable {w0 w:World} {gq:Nat} {n:Int} {v:Value} {ms:List Ml} {kind id at_ due:Int} {m:Ml} {A2:Option Addr} {c2:Nat} {A6:Option Addr} {c6:Nat} {A7:Option Addr} {c7:Nat}
theorem Bc {w w1:World} (h:Below w.heap.size w w1):Below w.heap.size w w1.drew:=gG h
theorem BW {w0 W:World} {gq gm cv i:Nat} {n:Int} {ms:List Ml} (hq:QW w0 W gq n (.slice (some ⟨gm,0,none⟩) ms.length cv) ms) (hi:i < ms.length) (hl:ms.length * 136≤140737488355328):
 Calls Tryz.prog 107 #[.slice (some ⟨gm,0,none⟩) ms.length cv,.int .i64 i,.int .i64 (wrap64 ((i:Int) + 1))] W fun e w'=>e= .returned (.slice (some ⟨gm,0,none⟩) (ms.length - 1) cv)∧Kd.S Mu 34 w' w0.heap.size (fun _ =>True) (.slice (some ⟨gm,0,none⟩) (ms.length - 1) cv) (ms.eraseIdx i)∧Below w0.heap.size w0 w'∧W.grownBy w' (some gm):=by
 have ew:wrap64 ((i:Int) + 1)=(i:Int) + 1:=by unfold wrap64;omega
 rw [ew]
 exact Ke ms gm cv i w0.heap.size w0 W hq.hs hi hq.bl hq.bl.size
def Close (owes b z:Bool) (done:Bool):Bool:=done && (owes == b && (owes || z))
set_option maxRecDepth 100000 in
set_option maxHeartbeats 16000000 in
theorem Fu (hW:QW w0 w gq n v ms) (hR:MR w0 m A2 c2 A6 c6 A7 c7) (hk:kind=5) (i:Nat) (x:Ml) (hi:mK id ms 0=i) (hx:ms[i]? =some x) (b z:Bool)
 (hbo:(!hasB x.f2 0)=true→dV.f m.f0 m.f1.f0 m.f1.f1 m.f1.f2.f0 m.f1.f2.f1 m.f1.f2.f2 m.f2 m.f3 m.f4 x.f0 x.f1.f0 x.f1.f1 x.f1.f2.f0 x.f1.f2.f1 x.f1.f2.f2 x.f2 x.f3 x.f4 n=some b) (hno:dK.f m.f0 m.f1.f0 m.f1.f1 m.f1.f2.f0 m.f1.f2.f1 m.f1.f2.f2 m.f2 m.f3 m.f4=some z)
 (hown:tu m) (hlen:ms.length * 136≤140737488355328) (B:Bool) (N:Int) (M:List Ml) (hB:B=Close (hasB x.f2 2 && !x.f1.f0) b z (!hasB x.f2 0)) (hN:N=if (hasB x.f2 2 && !x.f1.f0)=true then wrap64 (m.f0 + 1) else n) (hM:M=if (hasB x.f2 2 && !x.f1.f0)=true then ms.eraseIdx i ++ [m] else ms.eraseIdx i):
 Calls Tryz.prog 59 #[.pointer (some ⟨gq,0,none⟩),.agg (gZ kind id at_ due m A2 c2 A6 c6 A7 c7)] w (FR w0 gq B N M):=by
 subst hk
 have hu1:=Tryz.underlying46
 have hu2:=Tryz.underlying40
 have hu3:=Tryz.underlying34
 obtain ⟨Av,cv,rfl⟩:=Kd.gP hW.hs
 have hil:i < ms.length:=(List.getElem?_eq_some_iff.1 hx).1
 have hll:(ms.eraseIdx i).length=ms.length - 1:=by rw [List.length_eraseIdx,if_pos hil]
 have xC:=ah.mk (hW.below (dD (Below.refl _ _) (.cells (gZ 5 id at_ due m A2 c2 A6 c6 A7 c7) 46)))
 have rC:=ah.mk (dD (Below.refl w.heap.size w) (.cells (gZ 5 id at_ due m A2 c2 A6 c6 A7 c7) 46))
 have hq1:(w.alloc (.cells (gZ 5 id at_ due m A2 c2 A6 c6 A7 c7) 46)).cell? ⟨gq,1,none⟩=some (.slice Av ms.length cv):=(af xC.out.hq 1).trans rfl
 have HI:=ah.mk (wo ms id Av cv w.heap.size (w.alloc (.cells (gZ 5 id at_ due m A2 c2 A6 c6 A7 c7) 46)) (Kd.dN xC.out.hs).2.2 ((af (kA w _) 1).trans rfl))
 rw [hi] at HI
 have HX:=ah.mk hx
 have er:decide ((i:Int) < 0)=false:=decide_eq_false aA
 have Ej:=ah.mk (kA w (.cells (gZ 5 id at_ due m A2 c2 A6 c6 A7 c7) 46))
 have HGQ:=ah.mk (show gq < w.heap.size from eD hW.hq)
 have HHL:=ah.mk hll
 clear hll
 have HNO:=ah.mk (fun W (hb:Below w0.heap.size w0 W)=>dK.calls m.f0 m.f1.f0 A2 c2 m.f1.f1 m.f1.f2.f0 m.f1.f2.f1 m.f1.f2.f2 A6 c6 m.f2 A7 c7 m.f3 m.f4 z W (hR.below hb).r2 hR.c2 (hR.below hb).r6 hR.c6 (hR.below hb).r7 hR.c7 hno)
 have zu:=ah.mk hR
 have HOW:=ah.mk (Fq hown)
 have HLN:=ah.mk hlen
 have HBF:=ah.mk hbo
 have HDT:=ah.mk hil
 clear hno hR hown hlen hbo hW hi hx
 have HST:=ah.mk (show kM.f x.f0 x.f1.f0 x.f1.f1 x.f1.f2.f0 x.f1.f2.f1 x.f1.f2.f2 x.f2 x.f3 x.f4=some (!hasB x.f2 0,hasB x.f2 2) from rfl)
 obtain ⟨d0,hd0⟩:∃ d0,d0= !hasB x.f2 0:=⟨_,rfl⟩
 obtain ⟨f0,hf0⟩:∃ f0,f0=hasB x.f2 2:=⟨_,rfl⟩
 rw [← hd0,← hf0] at HST
 rw [← hd0,← hf0] at hB
 rw [← hf0] at hN hM
 rw [← hd0] at HBF
 have Y9:=ah.mk hB
 have HNV:=ah.mk hN
 have HMV:=ah.mk hM
 clear hB hN hM hd0 hf0
 go_enter Tryz.func59,Tryz.ntmps59
 go_wp2_with (first|(go_at_call 104;refine HI.out.mono ?_;rintro e w1 ⟨rfl,hb1⟩;have F8:=ah.mk (xC.out.below hb1);have aD0:=ah.mk (fY rC.out rC.out.size hb1);obtain ⟨gm,cm,v2,v6,v7,rQ,hv,hne,hcells,Vg,Bb,Vh,hback⟩:=F8.out.Vd i x HX.out;injection hv with hv1 hv2 hv3;subst hv1 hv3;have HNE:=ah.mk hne;have Vi:w1.cell? ⟨gq,1,none⟩=some (.slice (some ⟨gm,0,none⟩) ms.length cv):=(af F8.out.hq 1).trans rfl;obtain ⟨B2,d2,rfl⟩:=Kd.dF Vg;obtain ⟨B6,d6,rfl⟩:=Kd.dF Bb;obtain ⟨B7,d7,rfl⟩:=Kd.dF Vh;have Ye:=ah.mk (show CW w0 w w1 gq gm i n (.slice (some ⟨gm,0,none⟩) ms.length cv) ms m x A2 c2 A6 c6 A7 c7 B2 d2 B6 d6 B7 d7 from ⟨aD0.out,F8.out,(af F8.out.hq 0).trans rfl,Vi,(af (az Ej.out hb1) 4).trans rfl,(af (az Ej.out hb1) 5).trans rfl,(af (az Ej.out hb1) 6).trans rfl,(af (az Ej.out hb1) 7).trans rfl,(af (az Ej.out hb1) 8).trans rfl,(af (az Ej.out hb1) 9).trans rfl,(af (az Ej.out hb1) 10).trans rfl,(af (az Ej.out hb1) 11).trans rfl,(af (az Ej.out hb1) 12).trans rfl,hcells 0 _ rfl,hcells 1 _ rfl,hcells 2 _ rfl,hcells 3 _ rfl,hcells 4 _ rfl,hcells 5 _ rfl,hcells 6 _ rfl,hcells 7 _ rfl,hcells 8 _ rfl⟩);have aD2:=ah.mk (az Ej.out hb1);have Yf:=ah.mk (Kd.bW Vg);have HS6:=ah.mk (Kd.bW Bb);have HS7:=ah.mk (Kd.bW Vh);have hc0:w1.cell? ⟨w.heap.size,0,none⟩=some (.int .u8 5):=(af (az Ej.out hb1) 0).trans rfl;have hx0:=Ye.out.x0;have hx1:=Ye.out.x1;have hx2:=Ye.out.x2;have hx3:=Ye.out.x3;have hx4:=Ye.out.x4;have VT:=Ye.out.x5;have Xe:=Ye.out.x6;have hx7:=Ye.out.x7;have hx8:=Ye.out.x8;clear hb1 hcells hback Vg Bb Vh hne)|(go_at_call 61;refine (kM.calls x.f0 x.f1.f0 B2 d2 x.f1.f1 x.f1.f2.f0 x.f1.f2.f1 x.f1.f2.f2 B6 d6 x.f2 B7 d7 x.f3 x.f4 _ _ w1 Yf.out.2.2 Yf.out.2.1 HS6.out.2.2 HS6.out.2.1 HS7.out.2.2 HS7.out.2.1 HST.out).mono ?_;rintro e w4 ⟨rfl,hb4⟩;have fX:=ah.mk (Ye.out.below (Bc hb4));have Vk:=ah.mk (az aD2.out (Bc hb4));have HT2:=ah.mk (Kd.NK (Kd.bU Yf.out.2.2 hb4));have HT6:=ah.mk (Kd.NK (Kd.bU HS6.out.2.2 hb4));have HT7:=ah.mk (Kd.NK (Kd.bU HS7.out.2.2 hb4));have hy1:w4.cell? ⟨gm,i * 9 + 1,none⟩=some (.bool x.f1.f0):=(Ye.out.below hb4).x1;have HBQ:=ah.mk (F8.out.below hb4);clear hb4))
 ·have hf:f0=true:=by assumption
  cases d0
  ·skip
   obtain rfl:B=false:=Y9.out.trans (by simp [Close])
   clear hf
   refine lU (n:=26) (S:=fun w'=>w'.cell? ⟨gq,0,none⟩=some (.int .i64 n)∧w'.cell? ⟨w.heap.size,4,none⟩=some (.int .i64 m.f0)∧w'.cell? ⟨w.heap.size,5,none⟩=some (.bool m.f1.f0)∧w'.cell? ⟨w.heap.size,6,none⟩=some (.slice A2 m.f1.f1.length c2)∧w'.cell? ⟨w.heap.size,7,none⟩=some (.string m.f1.f2.f0)∧w'.cell? ⟨w.heap.size,8,none⟩=some (.string m.f1.f2.f1)∧w'.cell? ⟨w.heap.size,9,none⟩=some (.bool m.f1.f2.f2)∧w'.cell? ⟨w.heap.size,10,none⟩=some (.slice A6 m.f2.length c6)∧w'.cell? ⟨w.heap.size,11,none⟩=some (.slice A7 m.f3.length c7)∧w'.cell? ⟨w.heap.size,12,none⟩=some (.int .i64 m.f4)∧w'.cell? ⟨gm,i * 9,none⟩=some (.int .i64 x.f0)∧w'.cell? ⟨gm,i * 9 + 1,none⟩=some (.bool x.f1.f0)∧w'.cell? ⟨gm,i * 9 + 2,none⟩=some (.slice B2 x.f1.f1.length d2)∧w'.cell? ⟨gm,i * 9 + 3,none⟩=some (.string x.f1.f2.f0)∧w'.cell? ⟨gm,i * 9 + 4,none⟩=some (.string x.f1.f2.f1)∧w'.cell? ⟨gm,i * 9 + 5,none⟩=some (.bool x.f1.f2.f2)∧w'.cell? ⟨gm,i * 9 + 6,none⟩=some (.slice B6 x.f2.length d6)∧w'.cell? ⟨gm,i * 9 + 7,none⟩=some (.slice B7 x.f3.length d7)∧w'.cell? ⟨gm,i * 9 + 8,none⟩=some (.int .i64 x.f4)) (ds:=[]) #[false,false,false,false,false,false,false,false,false,false,false,false,false,false,false,false,false,false,false,false,false,false,false,false,false,false] au (by rfl) (by rfl) ⟨fX.out.q0,fX.out.c0,fX.out.c1,fX.out.c2,fX.out.c3,fX.out.c4,fX.out.c5,fX.out.c6,fX.out.c7,fX.out.c8,fX.out.x0,fX.out.x1,fX.out.x2,fX.out.x3,fX.out.x4,fX.out.x5,fX.out.x6,fX.out.x7,fX.out.x8⟩ (fun hHeld=>?_)
   refine aQ (i:=0) (N:=some 86) (v:=?_) (a':=?_) #[true,false,false,false,false,false,false,false,false,false,false,false,false,false,false,false,false,false,false,false,false,false,false,false,false,false] rfl rfl au (fun _ _ _ h=>h) (Or.inl ⟨by rfl,?_⟩) ?_ ?_
   rotate_left
   ·intro w'
    go_simp
    with_reducible rfl
   rotate_left
   ·simp only [Act.put,List.setIfInBounds_toArray,List.set_cons_zero,List.set_cons_succ,aY,aZ]
    rfl
   refine aQ (i:=1) (N:=some 87) (v:=?_) (a':=?_) #[true,true,false,false,false,false,false,false,false,false,false,false,false,false,false,false,false,false,false,false,false,false,false,false,false,false] rfl rfl au (fun _ _ _ h=>h) (Or.inl ⟨by rfl,?_⟩) ?_ ?_
   rotate_left
   ·intro w'
    go_simp
    with_reducible rfl
   rotate_left
   ·simp only [Act.put,List.setIfInBounds_toArray,List.set_cons_zero,List.set_cons_succ,aY,aZ]
    rfl
   refine aQ (i:=2) (N:=some 88) (v:=?_) (a':=?_) #[true,true,true,false,false,false,false,false,false,false,false,false,false,false,false,false,false,false,false,false,false,false,false,false,false,false] rfl rfl au (fun _ _ _ h=>h) (Or.inl ⟨by rfl,?_⟩) ?_ ?_
   rotate_left
   ·intro w'
    go_simp
    with_reducible rfl
   rotate_left
   ·simp only [Act.put,List.setIfInBounds_toArray,List.set_cons_zero,List.set_cons_succ,aY,aZ]
    rfl
   refine aQ (i:=3) (N:=some 89) (v:=undef) (a':=?_) #[true,true,true,true,false,false,false,false,false,false,false,false,false,false,false,false,false,false,false,false,false,false,false,false,false,false] rfl rfl au (fun _ _ _ h=>h) (Or.inr ⟨by rfl,rfl⟩) ?_ ?_
   rotate_left
   ·simp only [Act.put,List.setIfInBounds_toArray,List.set_cons_zero,List.set_cons_succ,aY,aZ]
    rfl
   refine aQ (i:=4) (N:=some 90) (v:=undef) (a':=?_) #[true,true,true,true,true,false,false,false,false,false,false,false,false,false,false,false,false,false,false,false,false,false,false,false,false,false] rfl rfl au (fun _ _ _ h=>h) (Or.inr ⟨by rfl,rfl⟩) ?_ ?_
   rotate_left
   ·simp only [Act.put,List.setIfInBounds_toArray,List.set_cons_zero,List.set_cons_succ,aY,aZ]
    rfl
   refine aQ (i:=5) (N:=some 91) (v:=undef) (a':=?_) #[true,true,true,true,true,true,false,false,false,false,false,false,false,false,false,false,false,false,false,false,false,false,false,false,false,false] rfl rfl au (fun _ _ _ h=>h) (Or.inr ⟨by rfl,rfl⟩) ?_ ?_
   rotate_left
   ·simp only [Act.put,List.setIfInBounds_toArray,List.set_cons_zero,List.set_cons_succ,aY,aZ]
    rfl
   refine aQ (i:=6) (N:=some 92) (v:=undef) (a':=?_) #[true,true,true,true,true,true,true,false,false,false,false,false,false,false,false,false,false,false,false,false,false,false,false,false,false,false] rfl rfl au (fun _ _ _ h=>h) (Or.inr ⟨by rfl,rfl⟩) ?_ ?_
   rotate_left
   ·simp only [Act.put,List.setIfInBounds_toArray,List.set_cons_zero,List.set_cons_succ,aY,aZ]
    rfl
   refine aQ (i:=7) (N:=some 93) (v:=undef) (a':=?_) #[true,true,true,true,true,true,true,true,false,false,false,false,false,false,false,false,false,false,false,false,false,false,false,false,false,false] rfl rfl au (fun _ _ _ h=>h) (Or.inr ⟨by rfl,rfl⟩) ?_ ?_
   rotate_left
   ·simp only [Act.put,List.setIfInBounds_toArray,List.set_cons_zero,List.set_cons_succ,aY,aZ]
    rfl
   refine aQ (i:=8) (N:=some 94) (v:=undef) (a':=?_) #[true,true,true,true,true,true,true,true,true,false,false,false,false,false,false,false,false,false,false,false,false,false,false,false,false,false] rfl rfl au (fun _ _ _ h=>h) (Or.inr ⟨by rfl,rfl⟩) ?_ ?_
   rotate_left
   ·simp only [Act.put,List.setIfInBounds_toArray,List.set_cons_zero,List.set_cons_succ,aY,aZ]
    rfl
   refine aQ (i:=9) (N:=some 95) (v:=undef) (a':=?_) #[true,true,true,true,true,true,true,true,true,true,false,false,false,false,false,false,false,false,false,false,false,false,false,false,false,false] rfl rfl au (fun _ _ _ h=>h) (Or.inr ⟨by rfl,rfl⟩) ?_ ?_
   rotate_left
   ·simp only [Act.put,List.setIfInBounds_toArray,List.set_cons_zero,List.set_cons_succ,aY,aZ]
    rfl
   refine aQ (i:=10) (N:=some 96) (v:=undef) (a':=?_) #[true,true,true,true,true,true,true,true,true,true,true,false,false,false,false,false,false,false,false,false,false,false,false,false,false,false] rfl rfl au (fun _ _ _ h=>h) (Or.inr ⟨by rfl,rfl⟩) ?_ ?_
   rotate_left
   ·simp only [Act.put,List.setIfInBounds_toArray,List.set_cons_zero,List.set_cons_succ,aY,aZ]
    rfl
   refine aQ (i:=11) (N:=some 97) (v:=undef) (a':=?_) #[true,true,true,true,true,true,true,true,true,true,true,true,false,false,false,false,false,false,false,false,false,false,false,false,false,false] rfl rfl au (fun _ _ _ h=>h) (Or.inr ⟨by rfl,rfl⟩) ?_ ?_
   rotate_left
   ·simp only [Act.put,List.setIfInBounds_toArray,List.set_cons_zero,List.set_cons_succ,aY,aZ]
    rfl
   refine aQ (i:=12) (N:=some 98) (v:=undef) (a':=?_) #[true,true,true,true,true,true,true,true,true,true,true,true,true,false,false,false,false,false,false,false,false,false,false,false,false,false] rfl rfl au (fun _ _ _ h=>h) (Or.inr ⟨by rfl,rfl⟩) ?_ ?_
   rotate_left
   ·simp only [Act.put,List.setIfInBounds_toArray,List.set_cons_zero,List.set_cons_succ,aY,aZ]
    rfl
   refine aQ (i:=13) (N:=some 99) (v:=undef) (a':=?_) #[true,true,true,true,true,true,true,true,true,true,true,true,true,true,false,false,false,false,false,false,false,false,false,false,false,false] rfl rfl au (fun _ _ _ h=>h) (Or.inr ⟨by rfl,rfl⟩) ?_ ?_
   rotate_left
   ·simp only [Act.put,List.setIfInBounds_toArray,List.set_cons_zero,List.set_cons_succ,aY,aZ]
    rfl
   refine aQ (i:=14) (N:=some 100) (v:=undef) (a':=?_) #[true,true,true,true,true,true,true,true,true,true,true,true,true,true,true,false,false,false,false,false,false,false,false,false,false,false] rfl rfl au (fun _ _ _ h=>h) (Or.inr ⟨by rfl,rfl⟩) ?_ ?_
   rotate_left
   ·simp only [Act.put,List.setIfInBounds_toArray,List.set_cons_zero,List.set_cons_succ,aY,aZ]
    rfl
   refine aQ (i:=15) (N:=some 101) (v:=?_) (a':=?_) #[true,true,true,true,true,true,true,true,true,true,true,true,true,true,true,true,false,false,false,false,false,false,false,false,false,false] rfl rfl au (fun _ _ _ h=>h) (Or.inl ⟨by rfl,?_⟩) ?_ ?_
   rotate_left
   ·intro w'
    go_simp
    with_reducible rfl
   rotate_left
   ·simp only [Act.put,List.setIfInBounds_toArray,List.set_cons_zero,List.set_cons_succ,aY,aZ]
    rfl
   refine aQ (i:=16) (N:=some 102) (v:=?_) (a':=?_) #[true,true,true,true,true,true,true,true,true,true,true,true,true,true,true,true,true,false,false,false,false,false,false,false,false,false] rfl rfl au (fun _ _ _ h=>h) (Or.inl ⟨by rfl,?_⟩) ?_ ?_
   rotate_left
   ·intro w'
    go_simp
    with_reducible rfl
   rotate_left
   ·simp only [Act.put,List.setIfInBounds_toArray,List.set_cons_zero,List.set_cons_succ,aY,aZ]
    rfl
   refine aQ (i:=17) (N:=some 103) (v:=undef) (a':=?_) #[true,true,true,true,true,true,true,true,true,true,true,true,true,true,true,true,true,true,false,false,false,false,false,false,false,false] rfl rfl au (fun _ _ _ h=>h) (Or.inr ⟨by rfl,rfl⟩) ?_ ?_
   rotate_left
   ·simp only [Act.put,List.setIfInBounds_toArray,List.set_cons_zero,List.set_cons_succ,aY,aZ]
    rfl
   refine aQ (i:=18) (N:=some 104) (v:=undef) (a':=?_) #[true,true,true,true,true,true,true,true,true,true,true,true,true,true,true,true,true,true,true,false,false,false,false,false,false,false] rfl rfl au (fun _ _ _ h=>h) (Or.inr ⟨by rfl,rfl⟩) ?_ ?_
   rotate_left
   ·simp only [Act.put,List.setIfInBounds_toArray,List.set_cons_zero,List.set_cons_succ,aY,aZ]
    rfl
   refine aQ (i:=19) (N:=some 105) (v:=undef) (a':=?_) #[true,true,true,true,true,true,true,true,true,true,true,true,true,true,true,true,true,true,true,true,false,false,false,false,false,false] rfl rfl au (fun _ _ _ h=>h) (Or.inr ⟨by rfl,rfl⟩) ?_ ?_
   rotate_left
   ·simp only [Act.put,List.setIfInBounds_toArray,List.set_cons_zero,List.set_cons_succ,aY,aZ]
    rfl
   refine aQ (i:=20) (N:=some 106) (v:=undef) (a':=?_) #[true,true,true,true,true,true,true,true,true,true,true,true,true,true,true,true,true,true,true,true,true,false,false,false,false,false] rfl rfl au (fun _ _ _ h=>h) (Or.inr ⟨by rfl,rfl⟩) ?_ ?_
   rotate_left
   ·simp only [Act.put,List.setIfInBounds_toArray,List.set_cons_zero,List.set_cons_succ,aY,aZ]
    rfl
   refine aQ (i:=21) (N:=some 107) (v:=undef) (a':=?_) #[true,true,true,true,true,true,true,true,true,true,true,true,true,true,true,true,true,true,true,true,true,true,false,false,false,false] rfl rfl au (fun _ _ _ h=>h) (Or.inr ⟨by rfl,rfl⟩) ?_ ?_
   rotate_left
   ·simp only [Act.put,List.setIfInBounds_toArray,List.set_cons_zero,List.set_cons_succ,aY,aZ]
    rfl
   refine aQ (i:=22) (N:=some 108) (v:=undef) (a':=?_) #[true,true,true,true,true,true,true,true,true,true,true,true,true,true,true,true,true,true,true,true,true,true,true,false,false,false] rfl rfl au (fun _ _ _ h=>h) (Or.inr ⟨by rfl,rfl⟩) ?_ ?_
   rotate_left
   ·simp only [Act.put,List.setIfInBounds_toArray,List.set_cons_zero,List.set_cons_succ,aY,aZ]
    rfl
   refine aQ (i:=23) (N:=some 109) (v:=undef) (a':=?_) #[true,true,true,true,true,true,true,true,true,true,true,true,true,true,true,true,true,true,true,true,true,true,true,true,false,false] rfl rfl au (fun _ _ _ h=>h) (Or.inr ⟨by rfl,rfl⟩) ?_ ?_
   rotate_left
   ·simp only [Act.put,List.setIfInBounds_toArray,List.set_cons_zero,List.set_cons_succ,aY,aZ]
    rfl
   refine aQ (i:=24) (N:=some 110) (v:=undef) (a':=?_) #[true,true,true,true,true,true,true,true,true,true,true,true,true,true,true,true,true,true,true,true,true,true,true,true,true,false] rfl rfl au (fun _ _ _ h=>h) (Or.inr ⟨by rfl,rfl⟩) ?_ ?_
   rotate_left
   ·simp only [Act.put,List.setIfInBounds_toArray,List.set_cons_zero,List.set_cons_succ,aY,aZ]
    rfl
   refine aQ (i:=25) (N:=some 111) (v:=?_) (a':=?_) #[true,true,true,true,true,true,true,true,true,true,true,true,true,true,true,true,true,true,true,true,true,true,true,true,true,true] rfl rfl au (fun _ _ _ h=>h) (Or.inl ⟨by rfl,?_⟩) ?_ ?_
   rotate_left
   ·intro w'
    go_simp
    with_reducible rfl
   rotate_left
   ·simp only [Act.put,List.setIfInBounds_toArray,List.set_cons_zero,List.set_cons_succ,aY,aZ]
    rfl
   refine oU au ?_
   go_wp2
   go_ret
   exact ⟨rfl,fX.out.hq.bl,fun h=>by cases h⟩
  ·skip
   have HBO:=ah.mk (dV.calls m.f0 m.f1.f0 A2 c2 m.f1.f1 m.f1.f2.f0 m.f1.f2.f1 m.f1.f2.f2 A6 c6 m.f2 A7 c7 m.f3 m.f4 x.f0 x.f1.f0 B2 d2 x.f1.f1 x.f1.f2.f0 x.f1.f2.f1 x.f1.f2.f2 B6 d6 x.f2 B7 d7 x.f3 x.f4 n _ w4.drew (zu.out.below fX.out.hq.bl).r2 zu.out.c2 (zu.out.below fX.out.hq.bl).r6 zu.out.c6 (zu.out.below fX.out.hq.bl).r7 zu.out.c7 HT2.out Yf.out.2.1 HT6.out HS6.out.2.1 HT7.out HS7.out.2.1 (HBF.out rfl))
   cases hn:x.f1.f0
   ·skip
    have HN5:=ah.mk hn
    have HF5:=ah.mk hf
    clear hn hf
    cases b
    ·skip
     obtain rfl:B=false:=Y9.out.trans sV
     refine lU (n:=26) (S:=fun w'=>w'.cell? ⟨gq,0,none⟩=some (.int .i64 n)∧w'.cell? ⟨w.heap.size,4,none⟩=some (.int .i64 m.f0)∧w'.cell? ⟨w.heap.size,5,none⟩=some (.bool m.f1.f0)∧w'.cell? ⟨w.heap.size,6,none⟩=some (.slice A2 m.f1.f1.length c2)∧w'.cell? ⟨w.heap.size,7,none⟩=some (.string m.f1.f2.f0)∧w'.cell? ⟨w.heap.size,8,none⟩=some (.string m.f1.f2.f1)∧w'.cell? ⟨w.heap.size,9,none⟩=some (.bool m.f1.f2.f2)∧w'.cell? ⟨w.heap.size,10,none⟩=some (.slice A6 m.f2.length c6)∧w'.cell? ⟨w.heap.size,11,none⟩=some (.slice A7 m.f3.length c7)∧w'.cell? ⟨w.heap.size,12,none⟩=some (.int .i64 m.f4)∧w'.cell? ⟨gm,i * 9,none⟩=some (.int .i64 x.f0)∧w'.cell? ⟨gm,i * 9 + 1,none⟩=some (.bool x.f1.f0)∧w'.cell? ⟨gm,i * 9 + 2,none⟩=some (.slice B2 x.f1.f1.length d2)∧w'.cell? ⟨gm,i * 9 + 3,none⟩=some (.string x.f1.f2.f0)∧w'.cell? ⟨gm,i * 9 + 4,none⟩=some (.string x.f1.f2.f1)∧w'.cell? ⟨gm,i * 9 + 5,none⟩=some (.bool x.f1.f2.f2)∧w'.cell? ⟨gm,i * 9 + 6,none⟩=some (.slice B6 x.f2.length d6)∧w'.cell? ⟨gm,i * 9 + 7,none⟩=some (.slice B7 x.f3.length d7)∧w'.cell? ⟨gm,i * 9 + 8,none⟩=some (.int .i64 x.f4)) (ds:=[]) #[false,false,false,false,false,false,false,false,false,false,false,false,false,false,false,false,false,false,false,false,false,false,false,false,false,false] au (by rfl) (by rfl) ⟨fX.out.q0,fX.out.c0,fX.out.c1,fX.out.c2,fX.out.c3,fX.out.c4,fX.out.c5,fX.out.c6,fX.out.c7,fX.out.c8,fX.out.x0,fX.out.x1,fX.out.x2,fX.out.x3,fX.out.x4,fX.out.x5,fX.out.x6,fX.out.x7,fX.out.x8⟩ (fun hHeld=>?_)
     refine aQ (i:=0) (N:=some 86) (v:=?_) (a':=?_) #[true,false,false,false,false,false,false,false,false,false,false,false,false,false,false,false,false,false,false,false,false,false,false,false,false,false] rfl rfl au (fun _ _ _ h=>h) (Or.inl ⟨by rfl,?_⟩) ?_ ?_
     rotate_left
     ·intro w'
      go_simp
      with_reducible rfl
     rotate_left
     ·simp only [Act.put,List.setIfInBounds_toArray,List.set_cons_zero,List.set_cons_succ,aY,aZ]
      rfl
     refine aQ (i:=1) (N:=some 87) (v:=?_) (a':=?_) #[true,true,false,false,false,false,false,false,false,false,false,false,false,false,false,false,false,false,false,false,false,false,false,false,false,false] rfl rfl au (fun _ _ _ h=>h) (Or.inl ⟨by rfl,?_⟩) ?_ ?_
     rotate_left
     ·intro w'
      go_simp
      with_reducible rfl
     rotate_left
     ·simp only [Act.put,List.setIfInBounds_toArray,List.set_cons_zero,List.set_cons_succ,aY,aZ]
      rfl
     refine aQ (i:=2) (N:=some 88) (v:=?_) (a':=?_) #[true,true,true,false,false,false,false,false,false,false,false,false,false,false,false,false,false,false,false,false,false,false,false,false,false,false] rfl rfl au (fun _ _ _ h=>h) (Or.inl ⟨by rfl,?_⟩) ?_ ?_
     rotate_left
     ·intro w'
      go_simp
      with_reducible rfl
     rotate_left
     ·simp only [Act.put,List.setIfInBounds_toArray,List.set_cons_zero,List.set_cons_succ,aY,aZ]
      rfl
     refine aQ (i:=3) (N:=some 89) (v:=?_) (a':=?_) #[true,true,true,true,false,false,false,false,false,false,false,false,false,false,false,false,false,false,false,false,false,false,false,false,false,false] rfl rfl au (fun _ _ _ h=>h) (Or.inl ⟨by rfl,?_⟩) ?_ ?_
     rotate_left
     ·intro w'
      go_simp
      with_reducible rfl
     rotate_left
     ·simp only [Act.put,List.setIfInBounds_toArray,List.set_cons_zero,List.set_cons_succ,aY,aZ]
      rfl
     refine aQ (i:=4) (N:=some 90) (v:=?_) (a':=?_) #[true,true,true,true,true,false,false,false,false,false,false,false,false,false,false,false,false,false,false,false,false,false,false,false,false,false] rfl rfl au (fun _ _ _ h=>h) (Or.inl ⟨by rfl,?_⟩) ?_ ?_
     rotate_left
     ·intro w'
      go_simp
      with_reducible rfl
     rotate_left
     ·simp only [Act.put,List.setIfInBounds_toArray,List.set_cons_zero,List.set_cons_succ,aY,aZ]
      rfl
     refine aQ (i:=6) (N:=some 92) (v:=?_) (a':=?_) #[true,true,true,true,true,false,true,false,false,false,false,false,false,false,false,false,false,false,false,false,false,false,false,false,false,false] rfl rfl au (fun _ _ _ h=>h) (Or.inl ⟨by rfl,?_⟩) ?_ ?_
     rotate_left
     ·intro w'
      go_simp
      with_reducible rfl
     rotate_left
     ·simp only [Act.put,List.setIfInBounds_toArray,List.set_cons_zero,List.set_cons_succ,aY,aZ]
      rfl
     refine aQ (i:=7) (N:=some 93) (v:=?_) (a':=?_) #[true,true,true,true,true,false,true,true,false,false,false,false,false,false,false,false,false,false,false,false,false,false,false,false,false,false] rfl rfl au (fun _ _ _ h=>h) (Or.inl ⟨by rfl,?_⟩) ?_ ?_
     rotate_left
     ·intro w'
      go_simp
      with_reducible rfl
     rotate_left
     ·simp only [Act.put,List.setIfInBounds_toArray,List.set_cons_zero,List.set_cons_succ,aY,aZ]
      rfl
     refine aQ (i:=9) (N:=some 95) (v:=?_) (a':=?_) #[true,true,true,true,true,false,true,true,false,true,false,false,false,false,false,false,false,false,false,false,false,false,false,false,false,false] rfl rfl au (fun _ _ _ h=>h) (Or.inl ⟨by rfl,?_⟩) ?_ ?_
     rotate_left
     ·intro w'
      go_simp
      with_reducible rfl
     rotate_left
     ·simp only [Act.put,List.setIfInBounds_toArray,List.set_cons_zero,List.set_cons_succ,aY,aZ]
      rfl
     refine aQ (i:=10) (N:=some 96) (v:=?_) (a':=?_) #[true,true,true,true,true,false,true,true,false,true,true,false,false,false,false,false,false,false,false,false,false,false,false,false,false,false] rfl rfl au (fun _ _ _ h=>h) (Or.inl ⟨by rfl,?_⟩) ?_ ?_
     rotate_left
     ·intro w'
      go_simp
      with_reducible rfl
     rotate_left
     ·simp only [Act.put,List.setIfInBounds_toArray,List.set_cons_zero,List.set_cons_succ,aY,aZ]
      rfl
     refine aQ (i:=11) (N:=some 97) (v:=?_) (a':=?_) #[true,true,true,true,true,false,true,true,false,true,true,true,false,false,false,false,false,false,false,false,false,false,false,false,false,false] rfl rfl au (fun _ _ _ h=>h) (Or.inl ⟨by rfl,?_⟩) ?_ ?_
     rotate_left
     ·intro w'
      go_simp
      with_reducible rfl
     rotate_left
     ·simp only [Act.put,List.setIfInBounds_toArray,List.set_cons_zero,List.set_cons_succ,aY,aZ]
      rfl
     refine gv (i:=5) (N:=some 91) (v:=?_) (a':=?_) #[true,true,true,true,true,true,true,true,false,true,true,true,false,false,false,false,false,false,false,false,false,false,false,false,false,false] rfl rfl au (fun _ _ _ h=>h) (Or.inl ⟨by rfl,?_⟩) hHeld ?_ ?_
     rotate_left
     ·rintro w' ⟨s0,s1,s2,s3,s4,s5,s6,s7,s8,s9,F6,F9,s12,Gp,Gq,Gr,Gs,Gt,Gu⟩
      go_simp
      with_reducible rfl
     rotate_left
     ·simp only [Act.put,List.setIfInBounds_toArray,List.set_cons_zero,List.set_cons_succ,aY,aZ]
      rfl
     refine gv (i:=8) (N:=some 94) (v:=?_) (a':=?_) #[true,true,true,true,true,true,true,true,true,true,true,true,false,false,false,false,false,false,false,false,false,false,false,false,false,false] rfl rfl au (fun _ _ _ h=>h) (Or.inl ⟨by rfl,?_⟩) hHeld ?_ ?_
     rotate_left
     ·rintro w' ⟨s0,s1,s2,s3,s4,s5,s6,s7,s8,s9,F6,F9,s12,Gp,Gq,Gr,Gs,Gt,Gu⟩
      go_simp
      with_reducible rfl
     rotate_left
     ·simp only [Act.put,List.setIfInBounds_toArray,List.set_cons_zero,List.set_cons_succ,aY,aZ]
      rfl
     refine gv (i:=12) (N:=some 98) (v:=?_) (a':=?_) #[true,true,true,true,true,true,true,true,true,true,true,true,true,false,false,false,false,false,false,false,false,false,false,false,false,false] rfl rfl au (fun _ _ _ h=>h) (Or.inl ⟨by rfl,?_⟩) hHeld ?_ ?_
     rotate_left
     ·rintro w' ⟨s0,s1,s2,s3,s4,s5,s6,s7,s8,s9,F6,F9,s12,Gp,Gq,Gr,Gs,Gt,Gu⟩
      go_simp
      with_reducible rfl
     rotate_left
     ·simp only [Act.put,List.setIfInBounds_toArray,List.set_cons_zero,List.set_cons_succ,aY,aZ]
      rfl
     refine pq (i:=13) (N:=some 99) #[true,true,true,true,true,true,true,true,true,true,true,true,true,true,false,false,false,false,false,false,false,false,false,false,false,false] rfl rfl au bC (fun K hK=>?_)
     refine mH Tryz.func106 au rfl #[.agg #[.int .i64 m.f0,.bool m.f1.f0,.slice A2 m.f1.f1.length c2,.string m.f1.f2.f0,.string m.f1.f2.f1,.bool m.f1.f2.f2,.slice A6 m.f2.length c6,.slice A7 m.f3.length c7,.int .i64 m.f4],.agg #[.int .i64 x.f0,.bool x.f1.f0,.slice B2 x.f1.f1.length d2,.string x.f1.f2.f0,.string x.f1.f2.f1,.bool x.f1.f2.f2,.slice B6 x.f2.length d6,.slice B7 x.f3.length d7,.int .i64 x.f4],.int .i64 n] (by rfl) rfl rfl uV ?_
     with_reducible refine (HBO.out).mono ?_
     rintro e w5 ⟨rfl,xB⟩
     refine ⟨_,rfl,?_⟩
     have gM:=ah.mk (fX.out.below xB)
     have Ku:=ah.mk (az Vk.out xB)
     clear xB
     refine hK.out _ _ ⟨gM.out.q0,gM.out.c0,gM.out.c1,gM.out.c2,gM.out.c3,gM.out.c4,gM.out.c5,gM.out.c6,gM.out.c7,gM.out.c8,gM.out.x0,gM.out.x1,gM.out.x2,gM.out.x3,gM.out.x4,gM.out.x5,gM.out.x6,gM.out.x7,gM.out.x8⟩ (fun hHeld=>?_)
     clear hK K
     refine kX (a':=?_) ?_ ?_
     rotate_left
     ·show Act.put _ (some 99) _=_
      simp only [Act.put,List.setIfInBounds_toArray,List.set_cons_zero,List.set_cons_succ,aY,aZ]
      rfl
     refine aQ (i:=14) (N:=some 100) (v:=?_) (a':=?_) #[true,true,true,true,true,true,true,true,true,true,true,true,true,true,true,false,false,false,false,false,false,false,false,false,false,false] rfl rfl au (fun _ _ _ h=>h) (Or.inl ⟨by rfl,?_⟩) ?_ ?_
     rotate_left
     ·intro w'
      go_simp
      with_reducible rfl
     rotate_left
     ·simp only [Act.put,List.setIfInBounds_toArray,List.set_cons_zero,List.set_cons_succ,aY,aZ]
      rfl
     refine aQ (i:=15) (N:=some 101) (v:=?_) (a':=?_) #[true,true,true,true,true,true,true,true,true,true,true,true,true,true,true,true,false,false,false,false,false,false,false,false,false,false] rfl rfl au (fun _ _ _ h=>h) (Or.inl ⟨by rfl,?_⟩) ?_ ?_
     rotate_left
     ·intro w'
      go_simp
      with_reducible rfl
     rotate_left
     ·simp only [Act.put,List.setIfInBounds_toArray,List.set_cons_zero,List.set_cons_succ,aY,aZ]
      rfl
     refine aQ (i:=16) (N:=some 102) (v:=?_) (a':=?_) #[true,true,true,true,true,true,true,true,true,true,true,true,true,true,true,true,true,false,false,false,false,false,false,false,false,false] rfl rfl au (fun _ _ _ h=>h) (Or.inl ⟨by rfl,?_⟩) ?_ ?_
     rotate_left
     ·intro w'
      go_simp
      with_reducible rfl
     rotate_left
     ·simp only [Act.put,List.setIfInBounds_toArray,List.set_cons_zero,List.set_cons_succ,aY,aZ]
      rfl
     refine aQ (i:=17) (N:=some 103) (v:=undef) (a':=?_) #[true,true,true,true,true,true,true,true,true,true,true,true,true,true,true,true,true,true,false,false,false,false,false,false,false,false] rfl rfl au (fun _ _ _ h=>h) (Or.inr ⟨by rfl,rfl⟩) ?_ ?_
     rotate_left
     ·simp only [Act.put,List.setIfInBounds_toArray,List.set_cons_zero,List.set_cons_succ,aY,aZ]
      rfl
     refine aQ (i:=18) (N:=some 104) (v:=undef) (a':=?_) #[true,true,true,true,true,true,true,true,true,true,true,true,true,true,true,true,true,true,true,false,false,false,false,false,false,false] rfl rfl au (fun _ _ _ h=>h) (Or.inr ⟨by rfl,rfl⟩) ?_ ?_
     rotate_left
     ·simp only [Act.put,List.setIfInBounds_toArray,List.set_cons_zero,List.set_cons_succ,aY,aZ]
      rfl
     refine aQ (i:=19) (N:=some 105) (v:=undef) (a':=?_) #[true,true,true,true,true,true,true,true,true,true,true,true,true,true,true,true,true,true,true,true,false,false,false,false,false,false] rfl rfl au (fun _ _ _ h=>h) (Or.inr ⟨by rfl,rfl⟩) ?_ ?_
     rotate_left
     ·simp only [Act.put,List.setIfInBounds_toArray,List.set_cons_zero,List.set_cons_succ,aY,aZ]
      rfl
     refine aQ (i:=20) (N:=some 106) (v:=undef) (a':=?_) #[true,true,true,true,true,true,true,true,true,true,true,true,true,true,true,true,true,true,true,true,true,false,false,false,false,false] rfl rfl au (fun _ _ _ h=>h) (Or.inr ⟨by rfl,rfl⟩) ?_ ?_
     rotate_left
     ·simp only [Act.put,List.setIfInBounds_toArray,List.set_cons_zero,List.set_cons_succ,aY,aZ]
      rfl
     refine aQ (i:=21) (N:=some 107) (v:=undef) (a':=?_) #[true,true,true,true,true,true,true,true,true,true,true,true,true,true,true,true,true,true,true,true,true,true,false,false,false,false] rfl rfl au (fun _ _ _ h=>h) (Or.inr ⟨by rfl,rfl⟩) ?_ ?_
     rotate_left
     ·simp only [Act.put,List.setIfInBounds_toArray,List.set_cons_zero,List.set_cons_succ,aY,aZ]
      rfl
     refine aQ (i:=22) (N:=some 108) (v:=undef) (a':=?_) #[true,true,true,true,true,true,true,true,true,true,true,true,true,true,true,true,true,true,true,true,true,true,true,false,false,false] rfl rfl au (fun _ _ _ h=>h) (Or.inr ⟨by rfl,rfl⟩) ?_ ?_
     rotate_left
     ·simp only [Act.put,List.setIfInBounds_toArray,List.set_cons_zero,List.set_cons_succ,aY,aZ]
      rfl
     refine aQ (i:=23) (N:=some 109) (v:=undef) (a':=?_) #[true,true,true,true,true,true,true,true,true,true,true,true,true,true,true,true,true,true,true,true,true,true,true,true,false,false] rfl rfl au (fun _ _ _ h=>h) (Or.inr ⟨by rfl,rfl⟩) ?_ ?_
     rotate_left
     ·simp only [Act.put,List.setIfInBounds_toArray,List.set_cons_zero,List.set_cons_succ,aY,aZ]
      rfl
     refine aQ (i:=24) (N:=some 110) (v:=undef) (a':=?_) #[true,true,true,true,true,true,true,true,true,true,true,true,true,true,true,true,true,true,true,true,true,true,true,true,true,false] rfl rfl au (fun _ _ _ h=>h) (Or.inr ⟨by rfl,rfl⟩) ?_ ?_
     rotate_left
     ·simp only [Act.put,List.setIfInBounds_toArray,List.set_cons_zero,List.set_cons_succ,aY,aZ]
      rfl
     refine aQ (i:=25) (N:=some 111) (v:=?_) (a':=?_) #[true,true,true,true,true,true,true,true,true,true,true,true,true,true,true,true,true,true,true,true,true,true,true,true,true,true] rfl rfl au (fun _ _ _ h=>h) (Or.inl ⟨by rfl,?_⟩) ?_ ?_
     rotate_left
     ·intro w'
      go_simp
      with_reducible rfl
     rotate_left
     ·simp only [Act.put,List.setIfInBounds_toArray,List.set_cons_zero,List.set_cons_succ,aY,aZ]
      rfl
     refine oU au ?_
     go_wp2
     go_ret
     exact ⟨rfl,gM.out.hq.bl,fun h=>by cases h⟩
    ·skip
     refine lU (n:=26) (S:=fun w'=>w'.cell? ⟨gq,0,none⟩=some (.int .i64 n)∧w'.cell? ⟨w.heap.size,4,none⟩=some (.int .i64 m.f0)∧w'.cell? ⟨w.heap.size,5,none⟩=some (.bool m.f1.f0)∧w'.cell? ⟨w.heap.size,6,none⟩=some (.slice A2 m.f1.f1.length c2)∧w'.cell? ⟨w.heap.size,7,none⟩=some (.string m.f1.f2.f0)∧w'.cell? ⟨w.heap.size,8,none⟩=some (.string m.f1.f2.f1)∧w'.cell? ⟨w.heap.size,9,none⟩=some (.bool m.f1.f2.f2)∧w'.cell? ⟨w.heap.size,10,none⟩=some (.slice A6 m.f2.length c6)∧w'.cell? ⟨w.heap.size,11,none⟩=some (.slice A7 m.f3.length c7)∧w'.cell? ⟨w.heap.size,12,none⟩=some (.int .i64 m.f4)∧w'.cell? ⟨gm,i * 9,none⟩=some (.int .i64 x.f0)∧w'.cell? ⟨gm,i * 9 + 1,none⟩=some (.bool x.f1.f0)∧w'.cell? ⟨gm,i * 9 + 2,none⟩=some (.slice B2 x.f1.f1.length d2)∧w'.cell? ⟨gm,i * 9 + 3,none⟩=some (.string x.f1.f2.f0)∧w'.cell? ⟨gm,i * 9 + 4,none⟩=some (.string x.f1.f2.f1)∧w'.cell? ⟨gm,i * 9 + 5,none⟩=some (.bool x.f1.f2.f2)∧w'.cell? ⟨gm,i * 9 + 6,none⟩=some (.slice B6 x.f2.length d6)∧w'.cell? ⟨gm,i * 9 + 7,none⟩=some (.slice B7 x.f3.length d7)∧w'.cell? ⟨gm,i * 9 + 8,none⟩=some (.int .i64 x.f4)) (ds:=[]) #[false,false,false,false,false,false,false,false,false,false,false,false,false,false,false,false,false,false,false,false,false,false,false,false,false,false] au (by rfl) (by rfl) ⟨fX.out.q0,fX.out.c0,fX.out.c1,fX.out.c2,fX.out.c3,fX.out.c4,fX.out.c5,fX.out.c6,fX.out.c7,fX.out.c8,fX.out.x0,fX.out.x1,fX.out.x2,fX.out.x3,fX.out.x4,fX.out.x5,fX.out.x6,fX.out.x7,fX.out.x8⟩ (fun hHeld=>?_)
     refine aQ (i:=0) (N:=some 86) (v:=?_) (a':=?_) #[true,false,false,false,false,false,false,false,false,false,false,false,false,false,false,false,false,false,false,false,false,false,false,false,false,false] rfl rfl au (fun _ _ _ h=>h) (Or.inl ⟨by rfl,?_⟩) ?_ ?_
     rotate_left
     ·intro w'
      go_simp
      with_reducible rfl
     rotate_left
     ·simp only [Act.put,List.setIfInBounds_toArray,List.set_cons_zero,List.set_cons_succ,aY,aZ]
      rfl
     refine aQ (i:=1) (N:=some 87) (v:=?_) (a':=?_) #[true,true,false,false,false,false,false,false,false,false,false,false,false,false,false,false,false,false,false,false,false,false,false,false,false,false] rfl rfl au (fun _ _ _ h=>h) (Or.inl ⟨by rfl,?_⟩) ?_ ?_
     rotate_left
     ·intro w'
      go_simp
      with_reducible rfl
     rotate_left
     ·simp only [Act.put,List.setIfInBounds_toArray,List.set_cons_zero,List.set_cons_succ,aY,aZ]
      rfl
     refine aQ (i:=2) (N:=some 88) (v:=?_) (a':=?_) #[true,true,true,false,false,false,false,false,false,false,false,false,false,false,false,false,false,false,false,false,false,false,false,false,false,false] rfl rfl au (fun _ _ _ h=>h) (Or.inl ⟨by rfl,?_⟩) ?_ ?_
     rotate_left
     ·intro w'
      go_simp
      with_reducible rfl
     rotate_left
     ·simp only [Act.put,List.setIfInBounds_toArray,List.set_cons_zero,List.set_cons_succ,aY,aZ]
      rfl
     refine aQ (i:=3) (N:=some 89) (v:=?_) (a':=?_) #[true,true,true,true,false,false,false,false,false,false,false,false,false,false,false,false,false,false,false,false,false,false,false,false,false,false] rfl rfl au (fun _ _ _ h=>h) (Or.inl ⟨by rfl,?_⟩) ?_ ?_
     rotate_left
     ·intro w'
      go_simp
      with_reducible rfl
     rotate_left
     ·simp only [Act.put,List.setIfInBounds_toArray,List.set_cons_zero,List.set_cons_succ,aY,aZ]
      rfl
     refine aQ (i:=4) (N:=some 90) (v:=?_) (a':=?_) #[true,true,true,true,true,false,false,false,false,false,false,false,false,false,false,false,false,false,false,false,false,false,false,false,false,false] rfl rfl au (fun _ _ _ h=>h) (Or.inl ⟨by rfl,?_⟩) ?_ ?_
     rotate_left
     ·intro w'
      go_simp
      with_reducible rfl
     rotate_left
     ·simp only [Act.put,List.setIfInBounds_toArray,List.set_cons_zero,List.set_cons_succ,aY,aZ]
      rfl
     refine aQ (i:=6) (N:=some 92) (v:=?_) (a':=?_) #[true,true,true,true,true,false,true,false,false,false,false,false,false,false,false,false,false,false,false,false,false,false,false,false,false,false] rfl rfl au (fun _ _ _ h=>h) (Or.inl ⟨by rfl,?_⟩) ?_ ?_
     rotate_left
     ·intro w'
      go_simp
      with_reducible rfl
     rotate_left
     ·simp only [Act.put,List.setIfInBounds_toArray,List.set_cons_zero,List.set_cons_succ,aY,aZ]
      rfl
     refine aQ (i:=7) (N:=some 93) (v:=?_) (a':=?_) #[true,true,true,true,true,false,true,true,false,false,false,false,false,false,false,false,false,false,false,false,false,false,false,false,false,false] rfl rfl au (fun _ _ _ h=>h) (Or.inl ⟨by rfl,?_⟩) ?_ ?_
     rotate_left
     ·intro w'
      go_simp
      with_reducible rfl
     rotate_left
     ·simp only [Act.put,List.setIfInBounds_toArray,List.set_cons_zero,List.set_cons_succ,aY,aZ]
      rfl
     refine aQ (i:=9) (N:=some 95) (v:=?_) (a':=?_) #[true,true,true,true,true,false,true,true,false,true,false,false,false,false,false,false,false,false,false,false,false,false,false,false,false,false] rfl rfl au (fun _ _ _ h=>h) (Or.inl ⟨by rfl,?_⟩) ?_ ?_
     rotate_left
     ·intro w'
      go_simp
      with_reducible rfl
     rotate_left
     ·simp only [Act.put,List.setIfInBounds_toArray,List.set_cons_zero,List.set_cons_succ,aY,aZ]
      rfl
     refine aQ (i:=10) (N:=some 96) (v:=?_) (a':=?_) #[true,true,true,true,true,false,true,true,false,true,true,false,false,false,false,false,false,false,false,false,false,false,false,false,false,false] rfl rfl au (fun _ _ _ h=>h) (Or.inl ⟨by rfl,?_⟩) ?_ ?_
     rotate_left
     ·intro w'
      go_simp
      with_reducible rfl
     rotate_left
     ·simp only [Act.put,List.setIfInBounds_toArray,List.set_cons_zero,List.set_cons_succ,aY,aZ]
      rfl
     refine aQ (i:=11) (N:=some 97) (v:=?_) (a':=?_) #[true,true,true,true,true,false,true,true,false,true,true,true,false,false,false,false,false,false,false,false,false,false,false,false,false,false] rfl rfl au (fun _ _ _ h=>h) (Or.inl ⟨by rfl,?_⟩) ?_ ?_
     rotate_left
     ·intro w'
      go_simp
      with_reducible rfl
     rotate_left
     ·simp only [Act.put,List.setIfInBounds_toArray,List.set_cons_zero,List.set_cons_succ,aY,aZ]
      rfl
     refine gv (i:=5) (N:=some 91) (v:=?_) (a':=?_) #[true,true,true,true,true,true,true,true,false,true,true,true,false,false,false,false,false,false,false,false,false,false,false,false,false,false] rfl rfl au (fun _ _ _ h=>h) (Or.inl ⟨by rfl,?_⟩) hHeld ?_ ?_
     rotate_left
     ·rintro w' ⟨s0,s1,s2,s3,s4,s5,s6,s7,s8,s9,F6,F9,s12,Gp,Gq,Gr,Gs,Gt,Gu⟩
      go_simp
      with_reducible rfl
     rotate_left
     ·simp only [Act.put,List.setIfInBounds_toArray,List.set_cons_zero,List.set_cons_succ,aY,aZ]
      rfl
     refine gv (i:=8) (N:=some 94) (v:=?_) (a':=?_) #[true,true,true,true,true,true,true,true,true,true,true,true,false,false,false,false,false,false,false,false,false,false,false,false,false,false] rfl rfl au (fun _ _ _ h=>h) (Or.inl ⟨by rfl,?_⟩) hHeld ?_ ?_
     rotate_left
     ·rintro w' ⟨s0,s1,s2,s3,s4,s5,s6,s7,s8,s9,F6,F9,s12,Gp,Gq,Gr,Gs,Gt,Gu⟩
      go_simp
      with_reducible rfl
     rotate_left
     ·simp only [Act.put,List.setIfInBounds_toArray,List.set_cons_zero,List.set_cons_succ,aY,aZ]
      rfl
     refine gv (i:=12) (N:=some 98) (v:=?_) (a':=?_) #[true,true,true,true,true,true,true,true,true,true,true,true,true,false,false,false,false,false,false,false,false,false,false,false,false,false] rfl rfl au (fun _ _ _ h=>h) (Or.inl ⟨by rfl,?_⟩) hHeld ?_ ?_
     rotate_left
     ·rintro w' ⟨s0,s1,s2,s3,s4,s5,s6,s7,s8,s9,F6,F9,s12,Gp,Gq,Gr,Gs,Gt,Gu⟩
      go_simp
      with_reducible rfl
     rotate_left
     ·simp only [Act.put,List.setIfInBounds_toArray,List.set_cons_zero,List.set_cons_succ,aY,aZ]
      rfl
     refine pq (i:=13) (N:=some 99) #[true,true,true,true,true,true,true,true,true,true,true,true,true,true,false,false,false,false,false,false,false,false,false,false,false,false] rfl rfl au bC (fun K hK=>?_)
     refine mH Tryz.func106 au rfl #[.agg #[.int .i64 m.f0,.bool m.f1.f0,.slice A2 m.f1.f1.length c2,.string m.f1.f2.f0,.string m.f1.f2.f1,.bool m.f1.f2.f2,.slice A6 m.f2.length c6,.slice A7 m.f3.length c7,.int .i64 m.f4],.agg #[.int .i64 x.f0,.bool x.f1.f0,.slice B2 x.f1.f1.length d2,.string x.f1.f2.f0,.string x.f1.f2.f1,.bool x.f1.f2.f2,.slice B6 x.f2.length d6,.slice B7 x.f3.length d7,.int .i64 x.f4],.int .i64 n] (by rfl) rfl rfl uV ?_
     with_reducible refine (HBO.out).mono ?_
     rintro e w5 ⟨rfl,xB⟩
     refine ⟨_,rfl,?_⟩
     have gM:=ah.mk (fX.out.below xB)
     have Ku:=ah.mk (az Vk.out xB)
     clear xB
     refine hK.out _ _ ⟨gM.out.q0,gM.out.c0,gM.out.c1,gM.out.c2,gM.out.c3,gM.out.c4,gM.out.c5,gM.out.c6,gM.out.c7,gM.out.c8,gM.out.x0,gM.out.x1,gM.out.x2,gM.out.x3,gM.out.x4,gM.out.x5,gM.out.x6,gM.out.x7,gM.out.x8⟩ (fun hHeld=>?_)
     clear hK K
     refine kX (a':=?_) ?_ ?_
     rotate_left
     ·show Act.put _ (some 99) _=_
      simp only [Act.put,List.setIfInBounds_toArray,List.set_cons_zero,List.set_cons_succ,aY,aZ]
      rfl
     refine aQ (i:=14) (N:=some 100) (v:=?_) (a':=?_) #[true,true,true,true,true,true,true,true,true,true,true,true,true,true,true,false,false,false,false,false,false,false,false,false,false,false] rfl rfl au (fun _ _ _ h=>h) (Or.inl ⟨by rfl,?_⟩) ?_ ?_
     rotate_left
     ·intro w'
      go_simp
      with_reducible rfl
     rotate_left
     ·simp only [Act.put,List.setIfInBounds_toArray,List.set_cons_zero,List.set_cons_succ,aY,aZ]
      rfl
     refine aQ (i:=15) (N:=some 101) (v:=?_) (a':=?_) #[true,true,true,true,true,true,true,true,true,true,true,true,true,true,true,true,false,false,false,false,false,false,false,false,false,false] rfl rfl au (fun _ _ _ h=>h) (Or.inl ⟨by rfl,?_⟩) ?_ ?_
     rotate_left
     ·intro w'
      go_simp
      with_reducible rfl
     rotate_left
     ·simp only [Act.put,List.setIfInBounds_toArray,List.set_cons_zero,List.set_cons_succ,aY,aZ]
      rfl
     refine aQ (i:=16) (N:=some 102) (v:=?_) (a':=?_) #[true,true,true,true,true,true,true,true,true,true,true,true,true,true,true,true,true,false,false,false,false,false,false,false,false,false] rfl rfl au (fun _ _ _ h=>h) (Or.inl ⟨by rfl,?_⟩) ?_ ?_
     rotate_left
     ·intro w'
      go_simp
      with_reducible rfl
     rotate_left
     ·simp only [Act.put,List.setIfInBounds_toArray,List.set_cons_zero,List.set_cons_succ,aY,aZ]
      rfl
     refine aQ (i:=17) (N:=some 103) (v:=?_) (a':=?_) #[true,true,true,true,true,true,true,true,true,true,true,true,true,true,true,true,true,true,false,false,false,false,false,false,false,false] rfl rfl au (fun _ _ _ h=>h) (Or.inl ⟨by rfl,?_⟩) ?_ ?_
     rotate_left
     ·intro w'
      go_simp
      with_reducible rfl
     rotate_left
     ·simp only [Act.put,List.setIfInBounds_toArray,List.set_cons_zero,List.set_cons_succ,aY,aZ]
      rfl
     refine aQ (i:=18) (N:=some 104) (v:=?_) (a':=?_) #[true,true,true,true,true,true,true,true,true,true,true,true,true,true,true,true,true,true,true,false,false,false,false,false,false,false] rfl rfl au (fun _ _ _ h=>h) (Or.inl ⟨by rfl,?_⟩) ?_ ?_
     rotate_left
     ·intro w'
      go_simp
      with_reducible rfl
     rotate_left
     ·simp only [Act.put,List.setIfInBounds_toArray,List.set_cons_zero,List.set_cons_succ,aY,aZ]
      rfl
     refine aQ (i:=19) (N:=some 105) (v:=?_) (a':=?_) #[true,true,true,true,true,true,true,true,true,true,true,true,true,true,true,true,true,true,true,true,false,false,false,false,false,false] rfl rfl au (fun _ _ _ h=>h) (Or.inl ⟨by rfl,?_⟩) ?_ ?_
     rotate_left
     ·intro w'
      go_simp
      with_reducible rfl
     rotate_left
     ·simp only [Act.put,List.setIfInBounds_toArray,List.set_cons_zero,List.set_cons_succ,aY,aZ]
      rfl
     refine aQ (i:=20) (N:=some 106) (v:=undef) (a':=?_) #[true,true,true,true,true,true,true,true,true,true,true,true,true,true,true,true,true,true,true,true,true,false,false,false,false,false] rfl rfl au (fun _ _ _ h=>h) (Or.inr ⟨by rfl,rfl⟩) ?_ ?_
     rotate_left
     ·simp only [Act.put,List.setIfInBounds_toArray,List.set_cons_zero,List.set_cons_succ,aY,aZ]
      rfl
     refine aQ (i:=21) (N:=some 107) (v:=undef) (a':=?_) #[true,true,true,true,true,true,true,true,true,true,true,true,true,true,true,true,true,true,true,true,true,true,false,false,false,false] rfl rfl au (fun _ _ _ h=>h) (Or.inr ⟨by rfl,rfl⟩) ?_ ?_
     rotate_left
     ·simp only [Act.put,List.setIfInBounds_toArray,List.set_cons_zero,List.set_cons_succ,aY,aZ]
      rfl
     refine aQ (i:=22) (N:=some 108) (v:=undef) (a':=?_) #[true,true,true,true,true,true,true,true,true,true,true,true,true,true,true,true,true,true,true,true,true,true,true,false,false,false] rfl rfl au (fun _ _ _ h=>h) (Or.inr ⟨by rfl,rfl⟩) ?_ ?_
     rotate_left
     ·simp only [Act.put,List.setIfInBounds_toArray,List.set_cons_zero,List.set_cons_succ,aY,aZ]
      rfl
     refine aQ (i:=23) (N:=some 109) (v:=undef) (a':=?_) #[true,true,true,true,true,true,true,true,true,true,true,true,true,true,true,true,true,true,true,true,true,true,true,true,false,false] rfl rfl au (fun _ _ _ h=>h) (Or.inr ⟨by rfl,rfl⟩) ?_ ?_
     rotate_left
     ·simp only [Act.put,List.setIfInBounds_toArray,List.set_cons_zero,List.set_cons_succ,aY,aZ]
      rfl
     refine aQ (i:=24) (N:=some 110) (v:=?_) (a':=?_) #[true,true,true,true,true,true,true,true,true,true,true,true,true,true,true,true,true,true,true,true,true,true,true,true,true,false] rfl rfl au (fun _ _ _ h=>h) (Or.inl ⟨by rfl,?_⟩) ?_ ?_
     rotate_left
     ·intro w'
      go_simp
      with_reducible rfl
     rotate_left
     ·simp only [Act.put,List.setIfInBounds_toArray,List.set_cons_zero,List.set_cons_succ,aY,aZ]
      rfl
     refine aQ (i:=25) (N:=some 111) (v:=?_) (a':=?_) #[true,true,true,true,true,true,true,true,true,true,true,true,true,true,true,true,true,true,true,true,true,true,true,true,true,true] rfl rfl au (fun _ _ _ h=>h) (Or.inl ⟨by rfl,?_⟩) ?_ ?_
     rotate_left
     ·intro w'
      go_simp
      with_reducible rfl
     rotate_left
     ·simp only [Act.put,List.setIfInBounds_toArray,List.set_cons_zero,List.set_cons_succ,aY,aZ]
      rfl
     refine oU au ?_
     have p1:=gM.out.q1
     go_wp2_with (first|(go_at_call 107;refine (BW gM.out.hq HDT.out HLN.out).mono ?_;rintro e w7 ⟨rfl,hs7,hb7,Yg⟩;have TN:=fU gM.out.hq.hq Yg (fun e=>HNE.out (Option.some.inj e).symm);have sy:=fU Ku.out Yg (Kd.NS gM.out.hq.hs Ku.out bC);have p7:w7.cell? ⟨gq,1,none⟩=some (.slice (some ⟨gm,0,none⟩) ms.length cv):=(af TN 1).trans rfl;have f7:=aa TN 1;have k0_ :=(af sy 0).trans rfl;have k1_ :=(af sy 1).trans rfl;have k2_ :=(af sy 2).trans rfl;have k3_ :=(af sy 3).trans rfl;have k4_ :=(af sy 4).trans rfl;have k5_ :=(af sy 5).trans rfl;have k6_ :=(af sy 6).trans rfl;have k7_ :=(af sy 7).trans rfl;have k8_ :=(af sy 8).trans rfl;have k9_ :=(af sy 9).trans rfl;have aor:=(af sy 10).trans rfl;have aos:=(af sy 11).trans rfl;have aot:=(af sy 12).trans rfl;have Za:=ah.mk (QW.put hb7 TN gM.out.hq.ge hs7);clear hs7 hb7 Yg TN sy)|(go_at_call 103;refine (GX.calls m A2 c2 A6 c6 A7 c7 gq n _ (ms.eraseIdx i) w0 _ Za.out (zu.out.below Za.out.bl).r2 zu.out.c2 (zu.out.below Za.out.bl).r6 zu.out.c6 (zu.out.below Za.out.bl).r7 zu.out.c7 HOW.out ?aou).mono ?_;(case aou=>rw [HHL.out];have:=HLN.out;have:=HDT.out;omega);rintro e w8 ⟨rfl,v8,hv8⟩;have HV8:=ah.mk hv8;clear hv8))
     obtain rfl:B=true:=Y9.out.trans sV
     obtain rfl:N=wrap64 (m.f0 + 1):=HNV.out.trans xO
     obtain rfl:M=ms.eraseIdx i ++ [m]:=HMV.out.trans xO
     go_ret
     exact ⟨rfl,HV8.out.bl,fun _ =>⟨_,HV8.out⟩⟩
   ·skip
    have HN5:=ah.mk hn
    have HF5:=ah.mk hf
    clear hn hf
    cases b
    ·skip
     refine lU (n:=26) (S:=fun w'=>w'.cell? ⟨gq,0,none⟩=some (.int .i64 n)∧w'.cell? ⟨w.heap.size,4,none⟩=some (.int .i64 m.f0)∧w'.cell? ⟨w.heap.size,5,none⟩=some (.bool m.f1.f0)∧w'.cell? ⟨w.heap.size,6,none⟩=some (.slice A2 m.f1.f1.length c2)∧w'.cell? ⟨w.heap.size,7,none⟩=some (.string m.f1.f2.f0)∧w'.cell? ⟨w.heap.size,8,none⟩=some (.string m.f1.f2.f1)∧w'.cell? ⟨w.heap.size,9,none⟩=some (.bool m.f1.f2.f2)∧w'.cell? ⟨w.heap.size,10,none⟩=some (.slice A6 m.f2.length c6)∧w'.cell? ⟨w.heap.size,11,none⟩=some (.slice A7 m.f3.length c7)∧w'.cell? ⟨w.heap.size,12,none⟩=some (.int .i64 m.f4)∧w'.cell? ⟨gm,i * 9,none⟩=some (.int .i64 x.f0)∧w'.cell? ⟨gm,i * 9 + 1,none⟩=some (.bool x.f1.f0)∧w'.cell? ⟨gm,i * 9 + 2,none⟩=some (.slice B2 x.f1.f1.length d2)∧w'.cell? ⟨gm,i * 9 + 3,none⟩=some (.string x.f1.f2.f0)∧w'.cell? ⟨gm,i * 9 + 4,none⟩=some (.string x.f1.f2.f1)∧w'.cell? ⟨gm,i * 9 + 5,none⟩=some (.bool x.f1.f2.f2)∧w'.cell? ⟨gm,i * 9 + 6,none⟩=some (.slice B6 x.f2.length d6)∧w'.cell? ⟨gm,i * 9 + 7,none⟩=some (.slice B7 x.f3.length d7)∧w'.cell? ⟨gm,i * 9 + 8,none⟩=some (.int .i64 x.f4)) (ds:=[]) #[false,false,false,false,false,false,false,false,false,false,false,false,false,false,false,false,false,false,false,false,false,false,false,false,false,false] au (by rfl) (by rfl) ⟨fX.out.q0,fX.out.c0,fX.out.c1,fX.out.c2,fX.out.c3,fX.out.c4,fX.out.c5,fX.out.c6,fX.out.c7,fX.out.c8,fX.out.x0,fX.out.x1,fX.out.x2,fX.out.x3,fX.out.x4,fX.out.x5,fX.out.x6,fX.out.x7,fX.out.x8⟩ (fun hHeld=>?_)
     refine aQ (i:=0) (N:=some 86) (v:=?_) (a':=?_) #[true,false,false,false,false,false,false,false,false,false,false,false,false,false,false,false,false,false,false,false,false,false,false,false,false,false] rfl rfl au (fun _ _ _ h=>h) (Or.inl ⟨by rfl,?_⟩) ?_ ?_
     rotate_left
     ·intro w'
      go_simp
      with_reducible rfl
     rotate_left
     ·simp only [Act.put,List.setIfInBounds_toArray,List.set_cons_zero,List.set_cons_succ,aY,aZ]
      rfl
     refine aQ (i:=1) (N:=some 87) (v:=?_) (a':=?_) #[true,true,false,false,false,false,false,false,false,false,false,false,false,false,false,false,false,false,false,false,false,false,false,false,false,false] rfl rfl au (fun _ _ _ h=>h) (Or.inl ⟨by rfl,?_⟩) ?_ ?_
     rotate_left
     ·intro w'
      go_simp
      with_reducible rfl
     rotate_left
     ·simp only [Act.put,List.setIfInBounds_toArray,List.set_cons_zero,List.set_cons_succ,aY,aZ]
      rfl
     refine aQ (i:=2) (N:=some 88) (v:=?_) (a':=?_) #[true,true,true,false,false,false,false,false,false,false,false,false,false,false,false,false,false,false,false,false,false,false,false,false,false,false] rfl rfl au (fun _ _ _ h=>h) (Or.inl ⟨by rfl,?_⟩) ?_ ?_
     rotate_left
     ·intro w'
      go_simp
      with_reducible rfl
     rotate_left
     ·simp only [Act.put,List.setIfInBounds_toArray,List.set_cons_zero,List.set_cons_succ,aY,aZ]
      rfl
     refine aQ (i:=3) (N:=some 89) (v:=?_) (a':=?_) #[true,true,true,true,false,false,false,false,false,false,false,false,false,false,false,false,false,false,false,false,false,false,false,false,false,false] rfl rfl au (fun _ _ _ h=>h) (Or.inl ⟨by rfl,?_⟩) ?_ ?_
     rotate_left
     ·intro w'
      go_simp
      with_reducible rfl
     rotate_left
     ·simp only [Act.put,List.setIfInBounds_toArray,List.set_cons_zero,List.set_cons_succ,aY,aZ]
      rfl
     refine aQ (i:=4) (N:=some 90) (v:=?_) (a':=?_) #[true,true,true,true,true,false,false,false,false,false,false,false,false,false,false,false,false,false,false,false,false,false,false,false,false,false] rfl rfl au (fun _ _ _ h=>h) (Or.inl ⟨by rfl,?_⟩) ?_ ?_
     rotate_left
     ·intro w'
      go_simp
      with_reducible rfl
     rotate_left
     ·simp only [Act.put,List.setIfInBounds_toArray,List.set_cons_zero,List.set_cons_succ,aY,aZ]
      rfl
     refine aQ (i:=6) (N:=some 92) (v:=?_) (a':=?_) #[true,true,true,true,true,false,true,false,false,false,false,false,false,false,false,false,false,false,false,false,false,false,false,false,false,false] rfl rfl au (fun _ _ _ h=>h) (Or.inl ⟨by rfl,?_⟩) ?_ ?_
     rotate_left
     ·intro w'
      go_simp
      with_reducible rfl
     rotate_left
     ·simp only [Act.put,List.setIfInBounds_toArray,List.set_cons_zero,List.set_cons_succ,aY,aZ]
      rfl
     refine aQ (i:=7) (N:=some 93) (v:=?_) (a':=?_) #[true,true,true,true,true,false,true,true,false,false,false,false,false,false,false,false,false,false,false,false,false,false,false,false,false,false] rfl rfl au (fun _ _ _ h=>h) (Or.inl ⟨by rfl,?_⟩) ?_ ?_
     rotate_left
     ·intro w'
      go_simp
      with_reducible rfl
     rotate_left
     ·simp only [Act.put,List.setIfInBounds_toArray,List.set_cons_zero,List.set_cons_succ,aY,aZ]
      rfl
     refine aQ (i:=9) (N:=some 95) (v:=?_) (a':=?_) #[true,true,true,true,true,false,true,true,false,true,false,false,false,false,false,false,false,false,false,false,false,false,false,false,false,false] rfl rfl au (fun _ _ _ h=>h) (Or.inl ⟨by rfl,?_⟩) ?_ ?_
     rotate_left
     ·intro w'
      go_simp
      with_reducible rfl
     rotate_left
     ·simp only [Act.put,List.setIfInBounds_toArray,List.set_cons_zero,List.set_cons_succ,aY,aZ]
      rfl
     refine aQ (i:=10) (N:=some 96) (v:=?_) (a':=?_) #[true,true,true,true,true,false,true,true,false,true,true,false,false,false,false,false,false,false,false,false,false,false,false,false,false,false] rfl rfl au (fun _ _ _ h=>h) (Or.inl ⟨by rfl,?_⟩) ?_ ?_
     rotate_left
     ·intro w'
      go_simp
      with_reducible rfl
     rotate_left
     ·simp only [Act.put,List.setIfInBounds_toArray,List.set_cons_zero,List.set_cons_succ,aY,aZ]
      rfl
     refine aQ (i:=11) (N:=some 97) (v:=?_) (a':=?_) #[true,true,true,true,true,false,true,true,false,true,true,true,false,false,false,false,false,false,false,false,false,false,false,false,false,false] rfl rfl au (fun _ _ _ h=>h) (Or.inl ⟨by rfl,?_⟩) ?_ ?_
     rotate_left
     ·intro w'
      go_simp
      with_reducible rfl
     rotate_left
     ·simp only [Act.put,List.setIfInBounds_toArray,List.set_cons_zero,List.set_cons_succ,aY,aZ]
      rfl
     refine gv (i:=5) (N:=some 91) (v:=?_) (a':=?_) #[true,true,true,true,true,true,true,true,false,true,true,true,false,false,false,false,false,false,false,false,false,false,false,false,false,false] rfl rfl au (fun _ _ _ h=>h) (Or.inl ⟨by rfl,?_⟩) hHeld ?_ ?_
     rotate_left
     ·rintro w' ⟨s0,s1,s2,s3,s4,s5,s6,s7,s8,s9,F6,F9,s12,Gp,Gq,Gr,Gs,Gt,Gu⟩
      go_simp
      with_reducible rfl
     rotate_left
     ·simp only [Act.put,List.setIfInBounds_toArray,List.set_cons_zero,List.set_cons_succ,aY,aZ]
      rfl
     refine gv (i:=8) (N:=some 94) (v:=?_) (a':=?_) #[true,true,true,true,true,true,true,true,true,true,true,true,false,false,false,false,false,false,false,false,false,false,false,false,false,false] rfl rfl au (fun _ _ _ h=>h) (Or.inl ⟨by rfl,?_⟩) hHeld ?_ ?_
     rotate_left
     ·rintro w' ⟨s0,s1,s2,s3,s4,s5,s6,s7,s8,s9,F6,F9,s12,Gp,Gq,Gr,Gs,Gt,Gu⟩
      go_simp
      with_reducible rfl
     rotate_left
     ·simp only [Act.put,List.setIfInBounds_toArray,List.set_cons_zero,List.set_cons_succ,aY,aZ]
      rfl
     refine gv (i:=12) (N:=some 98) (v:=?_) (a':=?_) #[true,true,true,true,true,true,true,true,true,true,true,true,true,false,false,false,false,false,false,false,false,false,false,false,false,false] rfl rfl au (fun _ _ _ h=>h) (Or.inl ⟨by rfl,?_⟩) hHeld ?_ ?_
     rotate_left
     ·rintro w' ⟨s0,s1,s2,s3,s4,s5,s6,s7,s8,s9,F6,F9,s12,Gp,Gq,Gr,Gs,Gt,Gu⟩
      go_simp
      with_reducible rfl
     rotate_left
     ·simp only [Act.put,List.setIfInBounds_toArray,List.set_cons_zero,List.set_cons_succ,aY,aZ]
      rfl
     refine pq (i:=13) (N:=some 99) #[true,true,true,true,true,true,true,true,true,true,true,true,true,true,false,false,false,false,false,false,false,false,false,false,false,false] rfl rfl au bC (fun K hK=>?_)
     refine mH Tryz.func106 au rfl #[.agg #[.int .i64 m.f0,.bool m.f1.f0,.slice A2 m.f1.f1.length c2,.string m.f1.f2.f0,.string m.f1.f2.f1,.bool m.f1.f2.f2,.slice A6 m.f2.length c6,.slice A7 m.f3.length c7,.int .i64 m.f4],.agg #[.int .i64 x.f0,.bool x.f1.f0,.slice B2 x.f1.f1.length d2,.string x.f1.f2.f0,.string x.f1.f2.f1,.bool x.f1.f2.f2,.slice B6 x.f2.length d6,.slice B7 x.f3.length d7,.int .i64 x.f4],.int .i64 n] (by rfl) rfl rfl uV ?_
     with_reducible refine (HBO.out).mono ?_
     rintro e w5 ⟨rfl,xB⟩
     refine ⟨_,rfl,?_⟩
     have gM:=ah.mk (fX.out.below xB)
     have Ku:=ah.mk (az Vk.out xB)
     clear xB
     refine hK.out _ _ ⟨gM.out.q0,gM.out.c0,gM.out.c1,gM.out.c2,gM.out.c3,gM.out.c4,gM.out.c5,gM.out.c6,gM.out.c7,gM.out.c8,gM.out.x0,gM.out.x1,gM.out.x2,gM.out.x3,gM.out.x4,gM.out.x5,gM.out.x6,gM.out.x7,gM.out.x8⟩ (fun hHeld=>?_)
     clear hK K
     refine kX (a':=?_) ?_ ?_
     rotate_left
     ·show Act.put _ (some 99) _=_
      simp only [Act.put,List.setIfInBounds_toArray,List.set_cons_zero,List.set_cons_succ,aY,aZ]
      rfl
     refine aQ (i:=14) (N:=some 100) (v:=?_) (a':=?_) #[true,true,true,true,true,true,true,true,true,true,true,true,true,true,true,false,false,false,false,false,false,false,false,false,false,false] rfl rfl au (fun _ _ _ h=>h) (Or.inl ⟨by rfl,?_⟩) ?_ ?_
     rotate_left
     ·intro w'
      go_simp
      with_reducible rfl
     rotate_left
     ·simp only [Act.put,List.setIfInBounds_toArray,List.set_cons_zero,List.set_cons_succ,aY,aZ]
      rfl
     refine aQ (i:=15) (N:=some 101) (v:=?_) (a':=?_) #[true,true,true,true,true,true,true,true,true,true,true,true,true,true,true,true,false,false,false,false,false,false,false,false,false,false] rfl rfl au (fun _ _ _ h=>h) (Or.inl ⟨by rfl,?_⟩) ?_ ?_
     rotate_left
     ·intro w'
      go_simp
      with_reducible rfl
     rotate_left
     ·simp only [Act.put,List.setIfInBounds_toArray,List.set_cons_zero,List.set_cons_succ,aY,aZ]
      rfl
     refine aQ (i:=16) (N:=some 102) (v:=?_) (a':=?_) #[true,true,true,true,true,true,true,true,true,true,true,true,true,true,true,true,true,false,false,false,false,false,false,false,false,false] rfl rfl au (fun _ _ _ h=>h) (Or.inl ⟨by rfl,?_⟩) ?_ ?_
     rotate_left
     ·intro w'
      go_simp
      with_reducible rfl
     rotate_left
     ·simp only [Act.put,List.setIfInBounds_toArray,List.set_cons_zero,List.set_cons_succ,aY,aZ]
      rfl
     refine aQ (i:=17) (N:=some 103) (v:=?_) (a':=?_) #[true,true,true,true,true,true,true,true,true,true,true,true,true,true,true,true,true,true,false,false,false,false,false,false,false,false] rfl rfl au (fun _ _ _ h=>h) (Or.inl ⟨by rfl,?_⟩) ?_ ?_
     rotate_left
     ·intro w'
      go_simp
      with_reducible rfl
     rotate_left
     ·simp only [Act.put,List.setIfInBounds_toArray,List.set_cons_zero,List.set_cons_succ,aY,aZ]
      rfl
     refine aQ (i:=18) (N:=some 104) (v:=?_) (a':=?_) #[true,true,true,true,true,true,true,true,true,true,true,true,true,true,true,true,true,true,true,false,false,false,false,false,false,false] rfl rfl au (fun _ _ _ h=>h) (Or.inl ⟨by rfl,?_⟩) ?_ ?_
     rotate_left
     ·intro w'
      go_simp
      with_reducible rfl
     rotate_left
     ·simp only [Act.put,List.setIfInBounds_toArray,List.set_cons_zero,List.set_cons_succ,aY,aZ]
      rfl
     refine aQ (i:=19) (N:=some 105) (v:=?_) (a':=?_) #[true,true,true,true,true,true,true,true,true,true,true,true,true,true,true,true,true,true,true,true,false,false,false,false,false,false] rfl rfl au (fun _ _ _ h=>h) (Or.inl ⟨by rfl,?_⟩) ?_ ?_
     rotate_left
     ·intro w'
      go_simp
      with_reducible rfl
     rotate_left
     ·simp only [Act.put,List.setIfInBounds_toArray,List.set_cons_zero,List.set_cons_succ,aY,aZ]
      rfl
     refine aQ (i:=20) (N:=some 106) (v:=?_) (a':=?_) #[true,true,true,true,true,true,true,true,true,true,true,true,true,true,true,true,true,true,true,true,true,false,false,false,false,false] rfl rfl au (fun _ _ _ h=>h) (Or.inl ⟨by rfl,?_⟩) ?_ ?_
     rotate_left
     ·intro w'
      go_simp
      with_reducible rfl
     rotate_left
     ·simp only [Act.put,List.setIfInBounds_toArray,List.set_cons_zero,List.set_cons_succ,aY,aZ]
      rfl
     refine gv (i:=21) (N:=some 107) (v:=?_) (a':=?_) #[true,true,true,true,true,true,true,true,true,true,true,true,true,true,true,true,true,true,true,true,true,true,false,false,false,false] rfl rfl au (fun _ _ _ h=>h) (Or.inl ⟨by rfl,?_⟩) hHeld ?_ ?_
     rotate_left
     ·rintro w' ⟨s0,s1,s2,s3,s4,s5,s6,s7,s8,s9,F6,F9,s12,Gp,Gq,Gr,Gs,Gt,Gu⟩
      go_simp
      with_reducible rfl
     rotate_left
     ·simp only [Act.put,List.setIfInBounds_toArray,List.set_cons_zero,List.set_cons_succ,aY,aZ]
      rfl
     refine pq (i:=22) (N:=some 108) #[true,true,true,true,true,true,true,true,true,true,true,true,true,true,true,true,true,true,true,true,true,true,true,false,false,false] rfl rfl au bC (fun K hK=>?_)
     refine mH Tryz.func63 au rfl #[.agg #[.int .i64 m.f0,.bool m.f1.f0,.slice A2 m.f1.f1.length c2,.string m.f1.f2.f0,.string m.f1.f2.f1,.bool m.f1.f2.f2,.slice A6 m.f2.length c6,.slice A7 m.f3.length c7,.int .i64 m.f4]] (by rfl) rfl rfl uV ?_
     with_reducible refine (HNO.out _ ?bI).mono ?_
     (case bI=>exact gM.out.hq.bl)
     rintro e w6 ⟨rfl,Vl⟩
     refine ⟨_,rfl,?_⟩
     have rB:=ah.mk (gM.out.below Vl)
     have Yh:=ah.mk (az Ku.out Vl)
     clear Vl
     refine hK.out _ _ ⟨rB.out.q0,rB.out.c0,rB.out.c1,rB.out.c2,rB.out.c3,rB.out.c4,rB.out.c5,rB.out.c6,rB.out.c7,rB.out.c8,rB.out.x0,rB.out.x1,rB.out.x2,rB.out.x3,rB.out.x4,rB.out.x5,rB.out.x6,rB.out.x7,rB.out.x8⟩ (fun hHeld=>?_)
     clear hK K
     refine kX (a':=?_) ?_ ?_
     rotate_left
     ·show Act.put _ (some 108) _=_
      simp only [Act.put,List.setIfInBounds_toArray,List.set_cons_zero,List.set_cons_succ,aY,aZ]
      rfl
     refine aQ (i:=23) (N:=some 109) (v:=?_) (a':=?_) #[true,true,true,true,true,true,true,true,true,true,true,true,true,true,true,true,true,true,true,true,true,true,true,true,false,false] rfl rfl au (fun _ _ _ h=>h) (Or.inl ⟨by rfl,?_⟩) ?_ ?_
     rotate_left
     ·intro w'
      go_simp
      with_reducible rfl
     rotate_left
     ·simp only [Act.put,List.setIfInBounds_toArray,List.set_cons_zero,List.set_cons_succ,aY,aZ]
      rfl
     refine aQ (i:=24) (N:=some 110) (v:=?_) (a':=?_) #[true,true,true,true,true,true,true,true,true,true,true,true,true,true,true,true,true,true,true,true,true,true,true,true,true,false] rfl rfl au (fun _ _ _ h=>h) (Or.inl ⟨by rfl,?_⟩) ?_ ?_
     rotate_left
     ·intro w'
      go_simp
      with_reducible rfl
     rotate_left
     ·simp only [Act.put,List.setIfInBounds_toArray,List.set_cons_zero,List.set_cons_succ,aY,aZ]
      rfl
     refine aQ (i:=25) (N:=some 111) (v:=?_) (a':=?_) #[true,true,true,true,true,true,true,true,true,true,true,true,true,true,true,true,true,true,true,true,true,true,true,true,true,true] rfl rfl au (fun _ _ _ h=>h) (Or.inl ⟨by rfl,?_⟩) ?_ ?_
     rotate_left
     ·intro w'
      go_simp
      with_reducible rfl
     rotate_left
     ·simp only [Act.put,List.setIfInBounds_toArray,List.set_cons_zero,List.set_cons_succ,aY,aZ]
      rfl
     refine oU au ?_
     cases z
     ·skip
      obtain rfl:B=false:=Y9.out.trans sV
      go_wp2
      go_ret
      exact ⟨rfl,rB.out.hq.bl,fun h=>by cases h⟩
     ·skip
      have p1:=rB.out.q1
      go_wp2_with (first|(go_at_call 107;refine (BW rB.out.hq HDT.out HLN.out).mono ?_;rintro e w7 ⟨rfl,hs7,hb7,Yg⟩;have TN:=fU rB.out.hq.hq Yg (fun e=>HNE.out (Option.some.inj e).symm);have sy:=fU Yh.out Yg (Kd.NS rB.out.hq.hs Yh.out bC);have p7:w7.cell? ⟨gq,1,none⟩=some (.slice (some ⟨gm,0,none⟩) ms.length cv):=(af TN 1).trans rfl;have f7:=aa TN 1;have k0_ :=(af sy 0).trans rfl;have k1_ :=(af sy 1).trans rfl;have k2_ :=(af sy 2).trans rfl;have k3_ :=(af sy 3).trans rfl;have k4_ :=(af sy 4).trans rfl;have k5_ :=(af sy 5).trans rfl;have k6_ :=(af sy 6).trans rfl;have k7_ :=(af sy 7).trans rfl;have k8_ :=(af sy 8).trans rfl;have k9_ :=(af sy 9).trans rfl;have aor:=(af sy 10).trans rfl;have aos:=(af sy 11).trans rfl;have aot:=(af sy 12).trans rfl;have Za:=ah.mk (QW.put hb7 TN rB.out.hq.ge hs7);clear hs7 hb7 Yg TN sy))
      obtain rfl:B=true:=Y9.out.trans sV
      obtain rfl:N=n:=HNV.out.trans xO
      obtain rfl:M=ms.eraseIdx i:=HMV.out.trans xO
      go_ret
      exact ⟨rfl,Za.out.bl,fun _ =>⟨_,Za.out⟩⟩
    ·skip
     obtain rfl:B=false:=Y9.out.trans sV
     refine lU (n:=26) (S:=fun w'=>w'.cell? ⟨gq,0,none⟩=some (.int .i64 n)∧w'.cell? ⟨w.heap.size,4,none⟩=some (.int .i64 m.f0)∧w'.cell? ⟨w.heap.size,5,none⟩=some (.bool m.f1.f0)∧w'.cell? ⟨w.heap.size,6,none⟩=some (.slice A2 m.f1.f1.length c2)∧w'.cell? ⟨w.heap.size,7,none⟩=some (.string m.f1.f2.f0)∧w'.cell? ⟨w.heap.size,8,none⟩=some (.string m.f1.f2.f1)∧w'.cell? ⟨w.heap.size,9,none⟩=some (.bool m.f1.f2.f2)∧w'.cell? ⟨w.heap.size,10,none⟩=some (.slice A6 m.f2.length c6)∧w'.cell? ⟨w.heap.size,11,none⟩=some (.slice A7 m.f3.length c7)∧w'.cell? ⟨w.heap.size,12,none⟩=some (.int .i64 m.f4)∧w'.cell? ⟨gm,i * 9,none⟩=some (.int .i64 x.f0)∧w'.cell? ⟨gm,i * 9 + 1,none⟩=some (.bool x.f1.f0)∧w'.cell? ⟨gm,i * 9 + 2,none⟩=some (.slice B2 x.f1.f1.length d2)∧w'.cell? ⟨gm,i * 9 + 3,none⟩=some (.string x.f1.f2.f0)∧w'.cell? ⟨gm,i * 9 + 4,none⟩=some (.string x.f1.f2.f1)∧w'.cell? ⟨gm,i * 9 + 5,none⟩=some (.bool x.f1.f2.f2)∧w'.cell? ⟨gm,i * 9 + 6,none⟩=some (.slice B6 x.f2.length d6)∧w'.cell? ⟨gm,i * 9 + 7,none⟩=some (.slice B7 x.f3.length d7)∧w'.cell? ⟨gm,i * 9 + 8,none⟩=some (.int .i64 x.f4)) (ds:=[]) #[false,false,false,false,false,false,false,false,false,false,false,false,false,false,false,false,false,false,false,false,false,false,false,false,false,false] au (by rfl) (by rfl) ⟨fX.out.q0,fX.out.c0,fX.out.c1,fX.out.c2,fX.out.c3,fX.out.c4,fX.out.c5,fX.out.c6,fX.out.c7,fX.out.c8,fX.out.x0,fX.out.x1,fX.out.x2,fX.out.x3,fX.out.x4,fX.out.x5,fX.out.x6,fX.out.x7,fX.out.x8⟩ (fun hHeld=>?_)
     refine aQ (i:=0) (N:=some 86) (v:=?_) (a':=?_) #[true,false,false,false,false,false,false,false,false,false,false,false,false,false,false,false,false,false,false,false,false,false,false,false,false,false] rfl rfl au (fun _ _ _ h=>h) (Or.inl ⟨by rfl,?_⟩) ?_ ?_
     rotate_left
     ·intro w'
      go_simp
      with_reducible rfl
     rotate_left
     ·simp only [Act.put,List.setIfInBounds_toArray,List.set_cons_zero,List.set_cons_succ,aY,aZ]
      rfl
     refine aQ (i:=1) (N:=some 87) (v:=?_) (a':=?_) #[true,true,false,false,false,false,false,false,false,false,false,false,false,false,false,false,false,false,false,false,false,false,false,false,false,false] rfl rfl au (fun _ _ _ h=>h) (Or.inl ⟨by rfl,?_⟩) ?_ ?_
     rotate_left
     ·intro w'
      go_simp
      with_reducible rfl
     rotate_left
     ·simp only [Act.put,List.setIfInBounds_toArray,List.set_cons_zero,List.set_cons_succ,aY,aZ]
      rfl
     refine aQ (i:=2) (N:=some 88) (v:=?_) (a':=?_) #[true,true,true,false,false,false,false,false,false,false,false,false,false,false,false,false,false,false,false,false,false,false,false,false,false,false] rfl rfl au (fun _ _ _ h=>h) (Or.inl ⟨by rfl,?_⟩) ?_ ?_
     rotate_left
     ·intro w'
      go_simp
      with_reducible rfl
     rotate_left
     ·simp only [Act.put,List.setIfInBounds_toArray,List.set_cons_zero,List.set_cons_succ,aY,aZ]
      rfl
     refine aQ (i:=3) (N:=some 89) (v:=?_) (a':=?_) #[true,true,true,true,false,false,false,false,false,false,false,false,false,false,false,false,false,false,false,false,false,false,false,false,false,false] rfl rfl au (fun _ _ _ h=>h) (Or.inl ⟨by rfl,?_⟩) ?_ ?_
     rotate_left
     ·intro w'
      go_simp
      with_reducible rfl
     rotate_left
     ·simp only [Act.put,List.setIfInBounds_toArray,List.set_cons_zero,List.set_cons_succ,aY,aZ]
      rfl
     refine aQ (i:=4) (N:=some 90) (v:=?_) (a':=?_) #[true,true,true,true,true,false,false,false,false,false,false,false,false,false,false,false,false,false,false,false,false,false,false,false,false,false] rfl rfl au (fun _ _ _ h=>h) (Or.inl ⟨by rfl,?_⟩) ?_ ?_
     rotate_left
     ·intro w'
      go_simp
      with_reducible rfl
     rotate_left
     ·simp only [Act.put,List.setIfInBounds_toArray,List.set_cons_zero,List.set_cons_succ,aY,aZ]
      rfl
     refine aQ (i:=6) (N:=some 92) (v:=?_) (a':=?_) #[true,true,true,true,true,false,true,false,false,false,false,false,false,false,false,false,false,false,false,false,false,false,false,false,false,false] rfl rfl au (fun _ _ _ h=>h) (Or.inl ⟨by rfl,?_⟩) ?_ ?_
     rotate_left
     ·intro w'
      go_simp
      with_reducible rfl
     rotate_left
     ·simp only [Act.put,List.setIfInBounds_toArray,List.set_cons_zero,List.set_cons_succ,aY,aZ]
      rfl
     refine aQ (i:=7) (N:=some 93) (v:=?_) (a':=?_) #[true,true,true,true,true,false,true,true,false,false,false,false,false,false,false,false,false,false,false,false,false,false,false,false,false,false] rfl rfl au (fun _ _ _ h=>h) (Or.inl ⟨by rfl,?_⟩) ?_ ?_
     rotate_left
     ·intro w'
      go_simp
      with_reducible rfl
     rotate_left
     ·simp only [Act.put,List.setIfInBounds_toArray,List.set_cons_zero,List.set_cons_succ,aY,aZ]
      rfl
     refine aQ (i:=9) (N:=some 95) (v:=?_) (a':=?_) #[true,true,true,true,true,false,true,true,false,true,false,false,false,false,false,false,false,false,false,false,false,false,false,false,false,false] rfl rfl au (fun _ _ _ h=>h) (Or.inl ⟨by rfl,?_⟩) ?_ ?_
     rotate_left
     ·intro w'
      go_simp
      with_reducible rfl
     rotate_left
     ·simp only [Act.put,List.setIfInBounds_toArray,List.set_cons_zero,List.set_cons_succ,aY,aZ]
      rfl
     refine aQ (i:=10) (N:=some 96) (v:=?_) (a':=?_) #[true,true,true,true,true,false,true,true,false,true,true,false,false,false,false,false,false,false,false,false,false,false,false,false,false,false] rfl rfl au (fun _ _ _ h=>h) (Or.inl ⟨by rfl,?_⟩) ?_ ?_
     rotate_left
     ·intro w'
      go_simp
      with_reducible rfl
     rotate_left
     ·simp only [Act.put,List.setIfInBounds_toArray,List.set_cons_zero,List.set_cons_succ,aY,aZ]
      rfl
     refine aQ (i:=11) (N:=some 97) (v:=?_) (a':=?_) #[true,true,true,true,true,false,true,true,false,true,true,true,false,false,false,false,false,false,false,false,false,false,false,false,false,false] rfl rfl au (fun _ _ _ h=>h) (Or.inl ⟨by rfl,?_⟩) ?_ ?_
     rotate_left
     ·intro w'
      go_simp
      with_reducible rfl
     rotate_left
     ·simp only [Act.put,List.setIfInBounds_toArray,List.set_cons_zero,List.set_cons_succ,aY,aZ]
      rfl
     refine gv (i:=5) (N:=some 91) (v:=?_) (a':=?_) #[true,true,true,true,true,true,true,true,false,true,true,true,false,false,false,false,false,false,false,false,false,false,false,false,false,false] rfl rfl au (fun _ _ _ h=>h) (Or.inl ⟨by rfl,?_⟩) hHeld ?_ ?_
     rotate_left
     ·rintro w' ⟨s0,s1,s2,s3,s4,s5,s6,s7,s8,s9,F6,F9,s12,Gp,Gq,Gr,Gs,Gt,Gu⟩
      go_simp
      with_reducible rfl
     rotate_left
     ·simp only [Act.put,List.setIfInBounds_toArray,List.set_cons_zero,List.set_cons_succ,aY,aZ]
      rfl
     refine gv (i:=8) (N:=some 94) (v:=?_) (a':=?_) #[true,true,true,true,true,true,true,true,true,true,true,true,false,false,false,false,false,false,false,false,false,false,false,false,false,false] rfl rfl au (fun _ _ _ h=>h) (Or.inl ⟨by rfl,?_⟩) hHeld ?_ ?_
     rotate_left
     ·rintro w' ⟨s0,s1,s2,s3,s4,s5,s6,s7,s8,s9,F6,F9,s12,Gp,Gq,Gr,Gs,Gt,Gu⟩
      go_simp
      with_reducible rfl
     rotate_left
     ·simp only [Act.put,List.setIfInBounds_toArray,List.set_cons_zero,List.set_cons_succ,aY,aZ]
      rfl
     refine gv (i:=12) (N:=some 98) (v:=?_) (a':=?_) #[true,true,true,true,true,true,true,true,true,true,true,true,true,false,false,false,false,false,false,false,false,false,false,false,false,false] rfl rfl au (fun _ _ _ h=>h) (Or.inl ⟨by rfl,?_⟩) hHeld ?_ ?_
     rotate_left
     ·rintro w' ⟨s0,s1,s2,s3,s4,s5,s6,s7,s8,s9,F6,F9,s12,Gp,Gq,Gr,Gs,Gt,Gu⟩
      go_simp
      with_reducible rfl
     rotate_left
     ·simp only [Act.put,List.setIfInBounds_toArray,List.set_cons_zero,List.set_cons_succ,aY,aZ]
      rfl
     refine pq (i:=13) (N:=some 99) #[true,true,true,true,true,true,true,true,true,true,true,true,true,true,false,false,false,false,false,false,false,false,false,false,false,false] rfl rfl au bC (fun K hK=>?_)
     refine mH Tryz.func106 au rfl #[.agg #[.int .i64 m.f0,.bool m.f1.f0,.slice A2 m.f1.f1.length c2,.string m.f1.f2.f0,.string m.f1.f2.f1,.bool m.f1.f2.f2,.slice A6 m.f2.length c6,.slice A7 m.f3.length c7,.int .i64 m.f4],.agg #[.int .i64 x.f0,.bool x.f1.f0,.slice B2 x.f1.f1.length d2,.string x.f1.f2.f0,.string x.f1.f2.f1,.bool x.f1.f2.f2,.slice B6 x.f2.length d6,.slice B7 x.f3.length d7,.int .i64 x.f4],.int .i64 n] (by rfl) rfl rfl uV ?_
     with_reducible refine (HBO.out).mono ?_
     rintro e w5 ⟨rfl,xB⟩
     refine ⟨_,rfl,?_⟩
     have gM:=ah.mk (fX.out.below xB)
     have Ku:=ah.mk (az Vk.out xB)
     clear xB
     refine hK.out _ _ ⟨gM.out.q0,gM.out.c0,gM.out.c1,gM.out.c2,gM.out.c3,gM.out.c4,gM.out.c5,gM.out.c6,gM.out.c7,gM.out.c8,gM.out.x0,gM.out.x1,gM.out.x2,gM.out.x3,gM.out.x4,gM.out.x5,gM.out.x6,gM.out.x7,gM.out.x8⟩ (fun hHeld=>?_)
     clear hK K
     refine kX (a':=?_) ?_ ?_
     rotate_left
     ·show Act.put _ (some 99) _=_
      simp only [Act.put,List.setIfInBounds_toArray,List.set_cons_zero,List.set_cons_succ,aY,aZ]
      rfl
     refine aQ (i:=14) (N:=some 100) (v:=?_) (a':=?_) #[true,true,true,true,true,true,true,true,true,true,true,true,true,true,true,false,false,false,false,false,false,false,false,false,false,false] rfl rfl au (fun _ _ _ h=>h) (Or.inl ⟨by rfl,?_⟩) ?_ ?_
     rotate_left
     ·intro w'
      go_simp
      with_reducible rfl
     rotate_left
     ·simp only [Act.put,List.setIfInBounds_toArray,List.set_cons_zero,List.set_cons_succ,aY,aZ]
      rfl
     refine aQ (i:=15) (N:=some 101) (v:=?_) (a':=?_) #[true,true,true,true,true,true,true,true,true,true,true,true,true,true,true,true,false,false,false,false,false,false,false,false,false,false] rfl rfl au (fun _ _ _ h=>h) (Or.inl ⟨by rfl,?_⟩) ?_ ?_
     rotate_left
     ·intro w'
      go_simp
      with_reducible rfl
     rotate_left
     ·simp only [Act.put,List.setIfInBounds_toArray,List.set_cons_zero,List.set_cons_succ,aY,aZ]
      rfl
     refine aQ (i:=16) (N:=some 102) (v:=?_) (a':=?_) #[true,true,true,true,true,true,true,true,true,true,true,true,true,true,true,true,true,false,false,false,false,false,false,false,false,false] rfl rfl au (fun _ _ _ h=>h) (Or.inl ⟨by rfl,?_⟩) ?_ ?_
     rotate_left
     ·intro w'
      go_simp
      with_reducible rfl
     rotate_left
     ·simp only [Act.put,List.setIfInBounds_toArray,List.set_cons_zero,List.set_cons_succ,aY,aZ]
      rfl
     refine aQ (i:=17) (N:=some 103) (v:=undef) (a':=?_) #[true,true,true,true,true,true,true,true,true,true,true,true,true,true,true,true,true,true,false,false,false,false,false,false,false,false] rfl rfl au (fun _ _ _ h=>h) (Or.inr ⟨by rfl,rfl⟩) ?_ ?_
     rotate_left
     ·simp only [Act.put,List.setIfInBounds_toArray,List.set_cons_zero,List.set_cons_succ,aY,aZ]
      rfl
     refine aQ (i:=18) (N:=some 104) (v:=undef) (a':=?_) #[true,true,true,true,true,true,true,true,true,true,true,true,true,true,true,true,true,true,true,false,false,false,false,false,false,false] rfl rfl au (fun _ _ _ h=>h) (Or.inr ⟨by rfl,rfl⟩) ?_ ?_
     rotate_left
     ·simp only [Act.put,List.setIfInBounds_toArray,List.set_cons_zero,List.set_cons_succ,aY,aZ]
      rfl
     refine aQ (i:=19) (N:=some 105) (v:=undef) (a':=?_) #[true,true,true,true,true,true,true,true,true,true,true,true,true,true,true,true,true,true,true,true,false,false,false,false,false,false] rfl rfl au (fun _ _ _ h=>h) (Or.inr ⟨by rfl,rfl⟩) ?_ ?_
     rotate_left
     ·simp only [Act.put,List.setIfInBounds_toArray,List.set_cons_zero,List.set_cons_succ,aY,aZ]
      rfl
     refine aQ (i:=20) (N:=some 106) (v:=undef) (a':=?_) #[true,true,true,true,true,true,true,true,true,true,true,true,true,true,true,true,true,true,true,true,true,false,false,false,false,false] rfl rfl au (fun _ _ _ h=>h) (Or.inr ⟨by rfl,rfl⟩) ?_ ?_
     rotate_left
     ·simp only [Act.put,List.setIfInBounds_toArray,List.set_cons_zero,List.set_cons_succ,aY,aZ]
      rfl
     refine aQ (i:=21) (N:=some 107) (v:=undef) (a':=?_) #[true,true,true,true,true,true,true,true,true,true,true,true,true,true,true,true,true,true,true,true,true,true,false,false,false,false] rfl rfl au (fun _ _ _ h=>h) (Or.inr ⟨by rfl,rfl⟩) ?_ ?_
     rotate_left
     ·simp only [Act.put,List.setIfInBounds_toArray,List.set_cons_zero,List.set_cons_succ,aY,aZ]
      rfl
     refine aQ (i:=22) (N:=some 108) (v:=undef) (a':=?_) #[true,true,true,true,true,true,true,true,true,true,true,true,true,true,true,true,true,true,true,true,true,true,true,false,false,false] rfl rfl au (fun _ _ _ h=>h) (Or.inr ⟨by rfl,rfl⟩) ?_ ?_
     rotate_left
     ·simp only [Act.put,List.setIfInBounds_toArray,List.set_cons_zero,List.set_cons_succ,aY,aZ]
      rfl
     refine aQ (i:=23) (N:=some 109) (v:=undef) (a':=?_) #[true,true,true,true,true,true,true,true,true,true,true,true,true,true,true,true,true,true,true,true,true,true,true,true,false,false] rfl rfl au (fun _ _ _ h=>h) (Or.inr ⟨by rfl,rfl⟩) ?_ ?_
     rotate_left
     ·simp only [Act.put,List.setIfInBounds_toArray,List.set_cons_zero,List.set_cons_succ,aY,aZ]
      rfl
     refine aQ (i:=24) (N:=some 110) (v:=undef) (a':=?_) #[true,true,true,true,true,true,true,true,true,true,true,true,true,true,true,true,true,true,true,true,true,true,true,true,true,false] rfl rfl au (fun _ _ _ h=>h) (Or.inr ⟨by rfl,rfl⟩) ?_ ?_
     rotate_left
     ·simp only [Act.put,List.setIfInBounds_toArray,List.set_cons_zero,List.set_cons_succ,aY,aZ]
      rfl
     refine aQ (i:=25) (N:=some 111) (v:=?_) (a':=?_) #[true,true,true,true,true,true,true,true,true,true,true,true,true,true,true,true,true,true,true,true,true,true,true,true,true,true] rfl rfl au (fun _ _ _ h=>h) (Or.inl ⟨by rfl,?_⟩) ?_ ?_
     rotate_left
     ·intro w'
      go_simp
      with_reducible rfl
     rotate_left
     ·simp only [Act.put,List.setIfInBounds_toArray,List.set_cons_zero,List.set_cons_succ,aY,aZ]
      rfl
     refine oU au ?_
     go_wp2
     go_ret
     exact ⟨rfl,gM.out.hq.bl,fun h=>by cases h⟩
 ·have hf:f0=false:=by first|assumption|(cases f0<;>first|rfl|exact absurd rfl nV)
  cases d0
  ·skip
   obtain rfl:B=false:=Y9.out.trans (by simp [Close])
   clear hf
   refine lU (n:=26) (S:=fun w'=>w'.cell? ⟨gq,0,none⟩=some (.int .i64 n)∧w'.cell? ⟨w.heap.size,4,none⟩=some (.int .i64 m.f0)∧w'.cell? ⟨w.heap.size,5,none⟩=some (.bool m.f1.f0)∧w'.cell? ⟨w.heap.size,6,none⟩=some (.slice A2 m.f1.f1.length c2)∧w'.cell? ⟨w.heap.size,7,none⟩=some (.string m.f1.f2.f0)∧w'.cell? ⟨w.heap.size,8,none⟩=some (.string m.f1.f2.f1)∧w'.cell? ⟨w.heap.size,9,none⟩=some (.bool m.f1.f2.f2)∧w'.cell? ⟨w.heap.size,10,none⟩=some (.slice A6 m.f2.length c6)∧w'.cell? ⟨w.heap.size,11,none⟩=some (.slice A7 m.f3.length c7)∧w'.cell? ⟨w.heap.size,12,none⟩=some (.int .i64 m.f4)∧w'.cell? ⟨gm,i * 9,none⟩=some (.int .i64 x.f0)∧w'.cell? ⟨gm,i * 9 + 1,none⟩=some (.bool x.f1.f0)∧w'.cell? ⟨gm,i * 9 + 2,none⟩=some (.slice B2 x.f1.f1.length d2)∧w'.cell? ⟨gm,i * 9 + 3,none⟩=some (.string x.f1.f2.f0)∧w'.cell? ⟨gm,i * 9 + 4,none⟩=some (.string x.f1.f2.f1)∧w'.cell? ⟨gm,i * 9 + 5,none⟩=some (.bool x.f1.f2.f2)∧w'.cell? ⟨gm,i * 9 + 6,none⟩=some (.slice B6 x.f2.length d6)∧w'.cell? ⟨gm,i * 9 + 7,none⟩=some (.slice B7 x.f3.length d7)∧w'.cell? ⟨gm,i * 9 + 8,none⟩=some (.int .i64 x.f4)) (ds:=[]) #[false,false,false,false,false,false,false,false,false,false,false,false,false,false,false,false,false,false,false,false,false,false,false,false,false,false] au (by rfl) (by rfl) ⟨fX.out.q0,fX.out.c0,fX.out.c1,fX.out.c2,fX.out.c3,fX.out.c4,fX.out.c5,fX.out.c6,fX.out.c7,fX.out.c8,fX.out.x0,fX.out.x1,fX.out.x2,fX.out.x3,fX.out.x4,fX.out.x5,fX.out.x6,fX.out.x7,fX.out.x8⟩ (fun hHeld=>?_)
   refine aQ (i:=0) (N:=some 86) (v:=?_) (a':=?_) #[true,false,false,false,false,false,false,false,false,false,false,false,false,false,false,false,false,false,false,false,false,false,false,false,false,false] rfl rfl au (fun _ _ _ h=>h) (Or.inl ⟨by rfl,?_⟩) ?_ ?_
   rotate_left
   ·intro w'
    go_simp
    with_reducible rfl
   rotate_left
   ·simp only [Act.put,List.setIfInBounds_toArray,List.set_cons_zero,List.set_cons_succ,aY,aZ]
    rfl
   refine aQ (i:=1) (N:=some 87) (v:=?_) (a':=?_) #[true,true,false,false,false,false,false,false,false,false,false,false,false,false,false,false,false,false,false,false,false,false,false,false,false,false] rfl rfl au (fun _ _ _ h=>h) (Or.inl ⟨by rfl,?_⟩) ?_ ?_
   rotate_left
   ·intro w'
    go_simp
    with_reducible rfl
   rotate_left
   ·simp only [Act.put,List.setIfInBounds_toArray,List.set_cons_zero,List.set_cons_succ,aY,aZ]
    rfl
   refine aQ (i:=2) (N:=some 88) (v:=?_) (a':=?_) #[true,true,true,false,false,false,false,false,false,false,false,false,false,false,false,false,false,false,false,false,false,false,false,false,false,false] rfl rfl au (fun _ _ _ h=>h) (Or.inl ⟨by rfl,?_⟩) ?_ ?_
   rotate_left
   ·intro w'
    go_simp
    with_reducible rfl
   rotate_left
   ·simp only [Act.put,List.setIfInBounds_toArray,List.set_cons_zero,List.set_cons_succ,aY,aZ]
    rfl
   refine aQ (i:=3) (N:=some 89) (v:=undef) (a':=?_) #[true,true,true,true,false,false,false,false,false,false,false,false,false,false,false,false,false,false,false,false,false,false,false,false,false,false] rfl rfl au (fun _ _ _ h=>h) (Or.inr ⟨by rfl,rfl⟩) ?_ ?_
   rotate_left
   ·simp only [Act.put,List.setIfInBounds_toArray,List.set_cons_zero,List.set_cons_succ,aY,aZ]
    rfl
   refine aQ (i:=4) (N:=some 90) (v:=undef) (a':=?_) #[true,true,true,true,true,false,false,false,false,false,false,false,false,false,false,false,false,false,false,false,false,false,false,false,false,false] rfl rfl au (fun _ _ _ h=>h) (Or.inr ⟨by rfl,rfl⟩) ?_ ?_
   rotate_left
   ·simp only [Act.put,List.setIfInBounds_toArray,List.set_cons_zero,List.set_cons_succ,aY,aZ]
    rfl
   refine aQ (i:=5) (N:=some 91) (v:=undef) (a':=?_) #[true,true,true,true,true,true,false,false,false,false,false,false,false,false,false,false,false,false,false,false,false,false,false,false,false,false] rfl rfl au (fun _ _ _ h=>h) (Or.inr ⟨by rfl,rfl⟩) ?_ ?_
   rotate_left
   ·simp only [Act.put,List.setIfInBounds_toArray,List.set_cons_zero,List.set_cons_succ,aY,aZ]
    rfl
   refine aQ (i:=6) (N:=some 92) (v:=undef) (a':=?_) #[true,true,true,true,true,true,true,false,false,false,false,false,false,false,false,false,false,false,false,false,false,false,false,false,false,false] rfl rfl au (fun _ _ _ h=>h) (Or.inr ⟨by rfl,rfl⟩) ?_ ?_
   rotate_left
   ·simp only [Act.put,List.setIfInBounds_toArray,List.set_cons_zero,List.set_cons_succ,aY,aZ]
    rfl
   refine aQ (i:=7) (N:=some 93) (v:=undef) (a':=?_) #[true,true,true,true,true,true,true,true,false,false,false,false,false,false,false,false,false,false,false,false,false,false,false,false,false,false] rfl rfl au (fun _ _ _ h=>h) (Or.inr ⟨by rfl,rfl⟩) ?_ ?_
   rotate_left
   ·simp only [Act.put,List.setIfInBounds_toArray,List.set_cons_zero,List.set_cons_succ,aY,aZ]
    rfl
   refine aQ (i:=8) (N:=some 94) (v:=undef) (a':=?_) #[true,true,true,true,true,true,true,true,true,false,false,false,false,false,false,false,false,false,false,false,false,false,false,false,false,false] rfl rfl au (fun _ _ _ h=>h) (Or.inr ⟨by rfl,rfl⟩) ?_ ?_
   rotate_left
   ·simp only [Act.put,List.setIfInBounds_toArray,List.set_cons_zero,List.set_cons_succ,aY,aZ]
    rfl
   refine aQ (i:=9) (N:=some 95) (v:=undef) (a':=?_) #[true,true,true,true,true,true,true,true,true,true,false,false,false,false,false,false,false,false,false,false,false,false,false,false,false,false] rfl rfl au (fun _ _ _ h=>h) (Or.inr ⟨by rfl,rfl⟩) ?_ ?_
   rotate_left
   ·simp only [Act.put,List.setIfInBounds_toArray,List.set_cons_zero,List.set_cons_succ,aY,aZ]
    rfl
   refine aQ (i:=10) (N:=some 96) (v:=undef) (a':=?_) #[true,true,true,true,true,true,true,true,true,true,true,false,false,false,false,false,false,false,false,false,false,false,false,false,false,false] rfl rfl au (fun _ _ _ h=>h) (Or.inr ⟨by rfl,rfl⟩) ?_ ?_
   rotate_left
   ·simp only [Act.put,List.setIfInBounds_toArray,List.set_cons_zero,List.set_cons_succ,aY,aZ]
    rfl
   refine aQ (i:=11) (N:=some 97) (v:=undef) (a':=?_) #[true,true,true,true,true,true,true,true,true,true,true,true,false,false,false,false,false,false,false,false,false,false,false,false,false,false] rfl rfl au (fun _ _ _ h=>h) (Or.inr ⟨by rfl,rfl⟩) ?_ ?_
   rotate_left
   ·simp only [Act.put,List.setIfInBounds_toArray,List.set_cons_zero,List.set_cons_succ,aY,aZ]
    rfl
   refine aQ (i:=12) (N:=some 98) (v:=undef) (a':=?_) #[true,true,true,true,true,true,true,true,true,true,true,true,true,false,false,false,false,false,false,false,false,false,false,false,false,false] rfl rfl au (fun _ _ _ h=>h) (Or.inr ⟨by rfl,rfl⟩) ?_ ?_
   rotate_left
   ·simp only [Act.put,List.setIfInBounds_toArray,List.set_cons_zero,List.set_cons_succ,aY,aZ]
    rfl
   refine aQ (i:=13) (N:=some 99) (v:=undef) (a':=?_) #[true,true,true,true,true,true,true,true,true,true,true,true,true,true,false,false,false,false,false,false,false,false,false,false,false,false] rfl rfl au (fun _ _ _ h=>h) (Or.inr ⟨by rfl,rfl⟩) ?_ ?_
   rotate_left
   ·simp only [Act.put,List.setIfInBounds_toArray,List.set_cons_zero,List.set_cons_succ,aY,aZ]
    rfl
   refine aQ (i:=14) (N:=some 100) (v:=undef) (a':=?_) #[true,true,true,true,true,true,true,true,true,true,true,true,true,true,true,false,false,false,false,false,false,false,false,false,false,false] rfl rfl au (fun _ _ _ h=>h) (Or.inr ⟨by rfl,rfl⟩) ?_ ?_
   rotate_left
   ·simp only [Act.put,List.setIfInBounds_toArray,List.set_cons_zero,List.set_cons_succ,aY,aZ]
    rfl
   refine aQ (i:=15) (N:=some 101) (v:=?_) (a':=?_) #[true,true,true,true,true,true,true,true,true,true,true,true,true,true,true,true,false,false,false,false,false,false,false,false,false,false] rfl rfl au (fun _ _ _ h=>h) (Or.inl ⟨by rfl,?_⟩) ?_ ?_
   rotate_left
   ·intro w'
    go_simp
    with_reducible rfl
   rotate_left
   ·simp only [Act.put,List.setIfInBounds_toArray,List.set_cons_zero,List.set_cons_succ,aY,aZ]
    rfl
   refine aQ (i:=16) (N:=some 102) (v:=?_) (a':=?_) #[true,true,true,true,true,true,true,true,true,true,true,true,true,true,true,true,true,false,false,false,false,false,false,false,false,false] rfl rfl au (fun _ _ _ h=>h) (Or.inl ⟨by rfl,?_⟩) ?_ ?_
   rotate_left
   ·intro w'
    go_simp
    with_reducible rfl
   rotate_left
   ·simp only [Act.put,List.setIfInBounds_toArray,List.set_cons_zero,List.set_cons_succ,aY,aZ]
    rfl
   refine aQ (i:=17) (N:=some 103) (v:=undef) (a':=?_) #[true,true,true,true,true,true,true,true,true,true,true,true,true,true,true,true,true,true,false,false,false,false,false,false,false,false] rfl rfl au (fun _ _ _ h=>h) (Or.inr ⟨by rfl,rfl⟩) ?_ ?_
   rotate_left
   ·simp only [Act.put,List.setIfInBounds_toArray,List.set_cons_zero,List.set_cons_succ,aY,aZ]
    rfl
   refine aQ (i:=18) (N:=some 104) (v:=undef) (a':=?_) #[true,true,true,true,true,true,true,true,true,true,true,true,true,true,true,true,true,true,true,false,false,false,false,false,false,false] rfl rfl au (fun _ _ _ h=>h) (Or.inr ⟨by rfl,rfl⟩) ?_ ?_
   rotate_left
   ·simp only [Act.put,List.setIfInBounds_toArray,List.set_cons_zero,List.set_cons_succ,aY,aZ]
    rfl
   refine aQ (i:=19) (N:=some 105) (v:=undef) (a':=?_) #[true,true,true,true,true,true,true,true,true,true,true,true,true,true,true,true,true,true,true,true,false,false,false,false,false,false] rfl rfl au (fun _ _ _ h=>h) (Or.inr ⟨by rfl,rfl⟩) ?_ ?_
   rotate_left
   ·simp only [Act.put,List.setIfInBounds_toArray,List.set_cons_zero,List.set_cons_succ,aY,aZ]
    rfl
   refine aQ (i:=20) (N:=some 106) (v:=undef) (a':=?_) #[true,true,true,true,true,true,true,true,true,true,true,true,true,true,true,true,true,true,true,true,true,false,false,false,false,false] rfl rfl au (fun _ _ _ h=>h) (Or.inr ⟨by rfl,rfl⟩) ?_ ?_
   rotate_left
   ·simp only [Act.put,List.setIfInBounds_toArray,List.set_cons_zero,List.set_cons_succ,aY,aZ]
    rfl
   refine aQ (i:=21) (N:=some 107) (v:=undef) (a':=?_) #[true,true,true,true,true,true,true,true,true,true,true,true,true,true,true,true,true,true,true,true,true,true,false,false,false,false] rfl rfl au (fun _ _ _ h=>h) (Or.inr ⟨by rfl,rfl⟩) ?_ ?_
   rotate_left
   ·simp only [Act.put,List.setIfInBounds_toArray,List.set_cons_zero,List.set_cons_succ,aY,aZ]
    rfl
   refine aQ (i:=22) (N:=some 108) (v:=undef) (a':=?_) #[true,true,true,true,true,true,true,true,true,true,true,true,true,true,true,true,true,true,true,true,true,true,true,false,false,false] rfl rfl au (fun _ _ _ h=>h) (Or.inr ⟨by rfl,rfl⟩) ?_ ?_
   rotate_left
   ·simp only [Act.put,List.setIfInBounds_toArray,List.set_cons_zero,List.set_cons_succ,aY,aZ]
    rfl
   refine aQ (i:=23) (N:=some 109) (v:=undef) (a':=?_) #[true,true,true,true,true,true,true,true,true,true,true,true,true,true,true,true,true,true,true,true,true,true,true,true,false,false] rfl rfl au (fun _ _ _ h=>h) (Or.inr ⟨by rfl,rfl⟩) ?_ ?_
   rotate_left
   ·simp only [Act.put,List.setIfInBounds_toArray,List.set_cons_zero,List.set_cons_succ,aY,aZ]
    rfl
   refine aQ (i:=24) (N:=some 110) (v:=undef) (a':=?_) #[true,true,true,true,true,true,true,true,true,true,true,true,true,true,true,true,true,true,true,true,true,true,true,true,true,false] rfl rfl au (fun _ _ _ h=>h) (Or.inr ⟨by rfl,rfl⟩) ?_ ?_
   rotate_left
   ·simp only [Act.put,List.setIfInBounds_toArray,List.set_cons_zero,List.set_cons_succ,aY,aZ]
    rfl
   refine aQ (i:=25) (N:=some 111) (v:=?_) (a':=?_) #[true,true,true,true,true,true,true,true,true,true,true,true,true,true,true,true,true,true,true,true,true,true,true,true,true,true] rfl rfl au (fun _ _ _ h=>h) (Or.inl ⟨by rfl,?_⟩) ?_ ?_
   rotate_left
   ·intro w'
    go_simp
    with_reducible rfl
   rotate_left
   ·simp only [Act.put,List.setIfInBounds_toArray,List.set_cons_zero,List.set_cons_succ,aY,aZ]
    rfl
   refine oU au ?_
   go_wp2
   go_ret
   exact ⟨rfl,fX.out.hq.bl,fun h=>by cases h⟩
  ·skip
   have HBO:=ah.mk (dV.calls m.f0 m.f1.f0 A2 c2 m.f1.f1 m.f1.f2.f0 m.f1.f2.f1 m.f1.f2.f2 A6 c6 m.f2 A7 c7 m.f3 m.f4 x.f0 x.f1.f0 B2 d2 x.f1.f1 x.f1.f2.f0 x.f1.f2.f1 x.f1.f2.f2 B6 d6 x.f2 B7 d7 x.f3 x.f4 n _ w4.drew (zu.out.below fX.out.hq.bl).r2 zu.out.c2 (zu.out.below fX.out.hq.bl).r6 zu.out.c6 (zu.out.below fX.out.hq.bl).r7 zu.out.c7 HT2.out Yf.out.2.1 HT6.out HS6.out.2.1 HT7.out HS7.out.2.1 (HBF.out rfl))
   have HN5:=ah.mk hf
   have HF5:=ah.mk hf
   clear hf
   cases b
   ·skip
    refine lU (n:=26) (S:=fun w'=>w'.cell? ⟨gq,0,none⟩=some (.int .i64 n)∧w'.cell? ⟨w.heap.size,4,none⟩=some (.int .i64 m.f0)∧w'.cell? ⟨w.heap.size,5,none⟩=some (.bool m.f1.f0)∧w'.cell? ⟨w.heap.size,6,none⟩=some (.slice A2 m.f1.f1.length c2)∧w'.cell? ⟨w.heap.size,7,none⟩=some (.string m.f1.f2.f0)∧w'.cell? ⟨w.heap.size,8,none⟩=some (.string m.f1.f2.f1)∧w'.cell? ⟨w.heap.size,9,none⟩=some (.bool m.f1.f2.f2)∧w'.cell? ⟨w.heap.size,10,none⟩=some (.slice A6 m.f2.length c6)∧w'.cell? ⟨w.heap.size,11,none⟩=some (.slice A7 m.f3.length c7)∧w'.cell? ⟨w.heap.size,12,none⟩=some (.int .i64 m.f4)∧w'.cell? ⟨gm,i * 9,none⟩=some (.int .i64 x.f0)∧w'.cell? ⟨gm,i * 9 + 1,none⟩=some (.bool x.f1.f0)∧w'.cell? ⟨gm,i * 9 + 2,none⟩=some (.slice B2 x.f1.f1.length d2)∧w'.cell? ⟨gm,i * 9 + 3,none⟩=some (.string x.f1.f2.f0)∧w'.cell? ⟨gm,i * 9 + 4,none⟩=some (.string x.f1.f2.f1)∧w'.cell? ⟨gm,i * 9 + 5,none⟩=some (.bool x.f1.f2.f2)∧w'.cell? ⟨gm,i * 9 + 6,none⟩=some (.slice B6 x.f2.length d6)∧w'.cell? ⟨gm,i * 9 + 7,none⟩=some (.slice B7 x.f3.length d7)∧w'.cell? ⟨gm,i * 9 + 8,none⟩=some (.int .i64 x.f4)) (ds:=[]) #[false,false,false,false,false,false,false,false,false,false,false,false,false,false,false,false,false,false,false,false,false,false,false,false,false,false] au (by rfl) (by rfl) ⟨fX.out.q0,fX.out.c0,fX.out.c1,fX.out.c2,fX.out.c3,fX.out.c4,fX.out.c5,fX.out.c6,fX.out.c7,fX.out.c8,fX.out.x0,fX.out.x1,fX.out.x2,fX.out.x3,fX.out.x4,fX.out.x5,fX.out.x6,fX.out.x7,fX.out.x8⟩ (fun hHeld=>?_)
    refine aQ (i:=0) (N:=some 86) (v:=?_) (a':=?_) #[true,false,false,false,false,false,false,false,false,false,false,false,false,false,false,false,false,false,false,false,false,false,false,false,false,false] rfl rfl au (fun _ _ _ h=>h) (Or.inl ⟨by rfl,?_⟩) ?_ ?_
    rotate_left
    ·intro w'
     go_simp
     with_reducible rfl
    rotate_left
    ·simp only [Act.put,List.setIfInBounds_toArray,List.set_cons_zero,List.set_cons_succ,aY,aZ]
     rfl
    refine aQ (i:=1) (N:=some 87) (v:=?_) (a':=?_) #[true,true,false,false,false,false,false,false,false,false,false,false,false,false,false,false,false,false,false,false,false,false,false,false,false,false] rfl rfl au (fun _ _ _ h=>h) (Or.inl ⟨by rfl,?_⟩) ?_ ?_
    rotate_left
    ·intro w'
     go_simp
     with_reducible rfl
    rotate_left
    ·simp only [Act.put,List.setIfInBounds_toArray,List.set_cons_zero,List.set_cons_succ,aY,aZ]
     rfl
    refine aQ (i:=2) (N:=some 88) (v:=?_) (a':=?_) #[true,true,true,false,false,false,false,false,false,false,false,false,false,false,false,false,false,false,false,false,false,false,false,false,false,false] rfl rfl au (fun _ _ _ h=>h) (Or.inl ⟨by rfl,?_⟩) ?_ ?_
    rotate_left
    ·intro w'
     go_simp
     with_reducible rfl
    rotate_left
    ·simp only [Act.put,List.setIfInBounds_toArray,List.set_cons_zero,List.set_cons_succ,aY,aZ]
     rfl
    refine aQ (i:=3) (N:=some 89) (v:=?_) (a':=?_) #[true,true,true,true,false,false,false,false,false,false,false,false,false,false,false,false,false,false,false,false,false,false,false,false,false,false] rfl rfl au (fun _ _ _ h=>h) (Or.inl ⟨by rfl,?_⟩) ?_ ?_
    rotate_left
    ·intro w'
     go_simp
     with_reducible rfl
    rotate_left
    ·simp only [Act.put,List.setIfInBounds_toArray,List.set_cons_zero,List.set_cons_succ,aY,aZ]
     rfl
    refine aQ (i:=4) (N:=some 90) (v:=?_) (a':=?_) #[true,true,true,true,true,false,false,false,false,false,false,false,false,false,false,false,false,false,false,false,false,false,false,false,false,false] rfl rfl au (fun _ _ _ h=>h) (Or.inl ⟨by rfl,?_⟩) ?_ ?_
    rotate_left
    ·intro w'
     go_simp
     with_reducible rfl
    rotate_left
    ·simp only [Act.put,List.setIfInBounds_toArray,List.set_cons_zero,List.set_cons_succ,aY,aZ]
     rfl
    refine aQ (i:=6) (N:=some 92) (v:=?_) (a':=?_) #[true,true,true,true,true,false,true,false,false,false,false,false,false,false,false,false,false,false,false,false,false,false,false,false,false,false] rfl rfl au (fun _ _ _ h=>h) (Or.inl ⟨by rfl,?_⟩) ?_ ?_
    rotate_left
    ·intro w'
     go_simp
     with_reducible rfl
    rotate_left
    ·simp only [Act.put,List.setIfInBounds_toArray,List.set_cons_zero,List.set_cons_succ,aY,aZ]
     rfl
    refine aQ (i:=7) (N:=some 93) (v:=?_) (a':=?_) #[true,true,true,true,true,false,true,true,false,false,false,false,false,false,false,false,false,false,false,false,false,false,false,false,false,false] rfl rfl au (fun _ _ _ h=>h) (Or.inl ⟨by rfl,?_⟩) ?_ ?_
    rotate_left
    ·intro w'
     go_simp
     with_reducible rfl
    rotate_left
    ·simp only [Act.put,List.setIfInBounds_toArray,List.set_cons_zero,List.set_cons_succ,aY,aZ]
     rfl
    refine aQ (i:=9) (N:=some 95) (v:=?_) (a':=?_) #[true,true,true,true,true,false,true,true,false,true,false,false,false,false,false,false,false,false,false,false,false,false,false,false,false,false] rfl rfl au (fun _ _ _ h=>h) (Or.inl ⟨by rfl,?_⟩) ?_ ?_
    rotate_left
    ·intro w'
     go_simp
     with_reducible rfl
    rotate_left
    ·simp only [Act.put,List.setIfInBounds_toArray,List.set_cons_zero,List.set_cons_succ,aY,aZ]
     rfl
    refine aQ (i:=10) (N:=some 96) (v:=?_) (a':=?_) #[true,true,true,true,true,false,true,true,false,true,true,false,false,false,false,false,false,false,false,false,false,false,false,false,false,false] rfl rfl au (fun _ _ _ h=>h) (Or.inl ⟨by rfl,?_⟩) ?_ ?_
    rotate_left
    ·intro w'
     go_simp
     with_reducible rfl
    rotate_left
    ·simp only [Act.put,List.setIfInBounds_toArray,List.set_cons_zero,List.set_cons_succ,aY,aZ]
     rfl
    refine aQ (i:=11) (N:=some 97) (v:=?_) (a':=?_) #[true,true,true,true,true,false,true,true,false,true,true,true,false,false,false,false,false,false,false,false,false,false,false,false,false,false] rfl rfl au (fun _ _ _ h=>h) (Or.inl ⟨by rfl,?_⟩) ?_ ?_
    rotate_left
    ·intro w'
     go_simp
     with_reducible rfl
    rotate_left
    ·simp only [Act.put,List.setIfInBounds_toArray,List.set_cons_zero,List.set_cons_succ,aY,aZ]
     rfl
    refine gv (i:=5) (N:=some 91) (v:=?_) (a':=?_) #[true,true,true,true,true,true,true,true,false,true,true,true,false,false,false,false,false,false,false,false,false,false,false,false,false,false] rfl rfl au (fun _ _ _ h=>h) (Or.inl ⟨by rfl,?_⟩) hHeld ?_ ?_
    rotate_left
    ·rintro w' ⟨s0,s1,s2,s3,s4,s5,s6,s7,s8,s9,F6,F9,s12,Gp,Gq,Gr,Gs,Gt,Gu⟩
     go_simp
     with_reducible rfl
    rotate_left
    ·simp only [Act.put,List.setIfInBounds_toArray,List.set_cons_zero,List.set_cons_succ,aY,aZ]
     rfl
    refine gv (i:=8) (N:=some 94) (v:=?_) (a':=?_) #[true,true,true,true,true,true,true,true,true,true,true,true,false,false,false,false,false,false,false,false,false,false,false,false,false,false] rfl rfl au (fun _ _ _ h=>h) (Or.inl ⟨by rfl,?_⟩) hHeld ?_ ?_
    rotate_left
    ·rintro w' ⟨s0,s1,s2,s3,s4,s5,s6,s7,s8,s9,F6,F9,s12,Gp,Gq,Gr,Gs,Gt,Gu⟩
     go_simp
     with_reducible rfl
    rotate_left
    ·simp only [Act.put,List.setIfInBounds_toArray,List.set_cons_zero,List.set_cons_succ,aY,aZ]
     rfl
    refine gv (i:=12) (N:=some 98) (v:=?_) (a':=?_) #[true,true,true,true,true,true,true,true,true,true,true,true,true,false,false,false,false,false,false,false,false,false,false,false,false,false] rfl rfl au (fun _ _ _ h=>h) (Or.inl ⟨by rfl,?_⟩) hHeld ?_ ?_
    rotate_left
    ·rintro w' ⟨s0,s1,s2,s3,s4,s5,s6,s7,s8,s9,F6,F9,s12,Gp,Gq,Gr,Gs,Gt,Gu⟩
     go_simp
     with_reducible rfl
    rotate_left
    ·simp only [Act.put,List.setIfInBounds_toArray,List.set_cons_zero,List.set_cons_succ,aY,aZ]
     rfl
    refine pq (i:=13) (N:=some 99) #[true,true,true,true,true,true,true,true,true,true,true,true,true,true,false,false,false,false,false,false,false,false,false,false,false,false] rfl rfl au bC (fun K hK=>?_)
    refine mH Tryz.func106 au rfl #[.agg #[.int .i64 m.f0,.bool m.f1.f0,.slice A2 m.f1.f1.length c2,.string m.f1.f2.f0,.string m.f1.f2.f1,.bool m.f1.f2.f2,.slice A6 m.f2.length c6,.slice A7 m.f3.length c7,.int .i64 m.f4],.agg #[.int .i64 x.f0,.bool x.f1.f0,.slice B2 x.f1.f1.length d2,.string x.f1.f2.f0,.string x.f1.f2.f1,.bool x.f1.f2.f2,.slice B6 x.f2.length d6,.slice B7 x.f3.length d7,.int .i64 x.f4],.int .i64 n] (by rfl) rfl rfl uV ?_
    with_reducible refine (HBO.out).mono ?_
    rintro e w5 ⟨rfl,xB⟩
    refine ⟨_,rfl,?_⟩
    have gM:=ah.mk (fX.out.below xB)
    have Ku:=ah.mk (az Vk.out xB)
    clear xB
    refine hK.out _ _ ⟨gM.out.q0,gM.out.c0,gM.out.c1,gM.out.c2,gM.out.c3,gM.out.c4,gM.out.c5,gM.out.c6,gM.out.c7,gM.out.c8,gM.out.x0,gM.out.x1,gM.out.x2,gM.out.x3,gM.out.x4,gM.out.x5,gM.out.x6,gM.out.x7,gM.out.x8⟩ (fun hHeld=>?_)
    clear hK K
    refine kX (a':=?_) ?_ ?_
    rotate_left
    ·show Act.put _ (some 99) _=_
     simp only [Act.put,List.setIfInBounds_toArray,List.set_cons_zero,List.set_cons_succ,aY,aZ]
     rfl
    refine aQ (i:=14) (N:=some 100) (v:=?_) (a':=?_) #[true,true,true,true,true,true,true,true,true,true,true,true,true,true,true,false,false,false,false,false,false,false,false,false,false,false] rfl rfl au (fun _ _ _ h=>h) (Or.inl ⟨by rfl,?_⟩) ?_ ?_
    rotate_left
    ·intro w'
     go_simp
     with_reducible rfl
    rotate_left
    ·simp only [Act.put,List.setIfInBounds_toArray,List.set_cons_zero,List.set_cons_succ,aY,aZ]
     rfl
    refine aQ (i:=15) (N:=some 101) (v:=?_) (a':=?_) #[true,true,true,true,true,true,true,true,true,true,true,true,true,true,true,true,false,false,false,false,false,false,false,false,false,false] rfl rfl au (fun _ _ _ h=>h) (Or.inl ⟨by rfl,?_⟩) ?_ ?_
    rotate_left
    ·intro w'
     go_simp
     with_reducible rfl
    rotate_left
    ·simp only [Act.put,List.setIfInBounds_toArray,List.set_cons_zero,List.set_cons_succ,aY,aZ]
     rfl
    refine aQ (i:=16) (N:=some 102) (v:=?_) (a':=?_) #[true,true,true,true,true,true,true,true,true,true,true,true,true,true,true,true,true,false,false,false,false,false,false,false,false,false] rfl rfl au (fun _ _ _ h=>h) (Or.inl ⟨by rfl,?_⟩) ?_ ?_
    rotate_left
    ·intro w'
     go_simp
     with_reducible rfl
    rotate_left
    ·simp only [Act.put,List.setIfInBounds_toArray,List.set_cons_zero,List.set_cons_succ,aY,aZ]
     rfl
    refine aQ (i:=17) (N:=some 103) (v:=?_) (a':=?_) #[true,true,true,true,true,true,true,true,true,true,true,true,true,true,true,true,true,true,false,false,false,false,false,false,false,false] rfl rfl au (fun _ _ _ h=>h) (Or.inl ⟨by rfl,?_⟩) ?_ ?_
    rotate_left
    ·intro w'
     go_simp
     with_reducible rfl
    rotate_left
    ·simp only [Act.put,List.setIfInBounds_toArray,List.set_cons_zero,List.set_cons_succ,aY,aZ]
     rfl
    refine aQ (i:=18) (N:=some 104) (v:=?_) (a':=?_) #[true,true,true,true,true,true,true,true,true,true,true,true,true,true,true,true,true,true,true,false,false,false,false,false,false,false] rfl rfl au (fun _ _ _ h=>h) (Or.inl ⟨by rfl,?_⟩) ?_ ?_
    rotate_left
    ·intro w'
     go_simp
     with_reducible rfl
    rotate_left
    ·simp only [Act.put,List.setIfInBounds_toArray,List.set_cons_zero,List.set_cons_succ,aY,aZ]
     rfl
    refine aQ (i:=19) (N:=some 105) (v:=?_) (a':=?_) #[true,true,true,true,true,true,true,true,true,true,true,true,true,true,true,true,true,true,true,true,false,false,false,false,false,false] rfl rfl au (fun _ _ _ h=>h) (Or.inl ⟨by rfl,?_⟩) ?_ ?_
    rotate_left
    ·intro w'
     go_simp
     with_reducible rfl
    rotate_left
    ·simp only [Act.put,List.setIfInBounds_toArray,List.set_cons_zero,List.set_cons_succ,aY,aZ]
     rfl
    refine aQ (i:=20) (N:=some 106) (v:=?_) (a':=?_) #[true,true,true,true,true,true,true,true,true,true,true,true,true,true,true,true,true,true,true,true,true,false,false,false,false,false] rfl rfl au (fun _ _ _ h=>h) (Or.inl ⟨by rfl,?_⟩) ?_ ?_
    rotate_left
    ·intro w'
     go_simp
     with_reducible rfl
    rotate_left
    ·simp only [Act.put,List.setIfInBounds_toArray,List.set_cons_zero,List.set_cons_succ,aY,aZ]
     rfl
    refine gv (i:=21) (N:=some 107) (v:=?_) (a':=?_) #[true,true,true,true,true,true,true,true,true,true,true,true,true,true,true,true,true,true,true,true,true,true,false,false,false,false] rfl rfl au (fun _ _ _ h=>h) (Or.inl ⟨by rfl,?_⟩) hHeld ?_ ?_
    rotate_left
    ·rintro w' ⟨s0,s1,s2,s3,s4,s5,s6,s7,s8,s9,F6,F9,s12,Gp,Gq,Gr,Gs,Gt,Gu⟩
     go_simp
     with_reducible rfl
    rotate_left
    ·simp only [Act.put,List.setIfInBounds_toArray,List.set_cons_zero,List.set_cons_succ,aY,aZ]
     rfl
    refine pq (i:=22) (N:=some 108) #[true,true,true,true,true,true,true,true,true,true,true,true,true,true,true,true,true,true,true,true,true,true,true,false,false,false] rfl rfl au bC (fun K hK=>?_)
    refine mH Tryz.func63 au rfl #[.agg #[.int .i64 m.f0,.bool m.f1.f0,.slice A2 m.f1.f1.length c2,.string m.f1.f2.f0,.string m.f1.f2.f1,.bool m.f1.f2.f2,.slice A6 m.f2.length c6,.slice A7 m.f3.length c7,.int .i64 m.f4]] (by rfl) rfl rfl uV ?_
    with_reducible refine (HNO.out _ ?bI).mono ?_
    (case bI=>exact gM.out.hq.bl)
    rintro e w6 ⟨rfl,Vl⟩
    refine ⟨_,rfl,?_⟩
    have rB:=ah.mk (gM.out.below Vl)
    have Yh:=ah.mk (az Ku.out Vl)
    clear Vl
    refine hK.out _ _ ⟨rB.out.q0,rB.out.c0,rB.out.c1,rB.out.c2,rB.out.c3,rB.out.c4,rB.out.c5,rB.out.c6,rB.out.c7,rB.out.c8,rB.out.x0,rB.out.x1,rB.out.x2,rB.out.x3,rB.out.x4,rB.out.x5,rB.out.x6,rB.out.x7,rB.out.x8⟩ (fun hHeld=>?_)
    clear hK K
    refine kX (a':=?_) ?_ ?_
    rotate_left
    ·show Act.put _ (some 108) _=_
     simp only [Act.put,List.setIfInBounds_toArray,List.set_cons_zero,List.set_cons_succ,aY,aZ]
     rfl
    refine aQ (i:=23) (N:=some 109) (v:=?_) (a':=?_) #[true,true,true,true,true,true,true,true,true,true,true,true,true,true,true,true,true,true,true,true,true,true,true,true,false,false] rfl rfl au (fun _ _ _ h=>h) (Or.inl ⟨by rfl,?_⟩) ?_ ?_
    rotate_left
    ·intro w'
     go_simp
     with_reducible rfl
    rotate_left
    ·simp only [Act.put,List.setIfInBounds_toArray,List.set_cons_zero,List.set_cons_succ,aY,aZ]
     rfl
    refine aQ (i:=24) (N:=some 110) (v:=?_) (a':=?_) #[true,true,true,true,true,true,true,true,true,true,true,true,true,true,true,true,true,true,true,true,true,true,true,true,true,false] rfl rfl au (fun _ _ _ h=>h) (Or.inl ⟨by rfl,?_⟩) ?_ ?_
    rotate_left
    ·intro w'
     go_simp
     with_reducible rfl
    rotate_left
    ·simp only [Act.put,List.setIfInBounds_toArray,List.set_cons_zero,List.set_cons_succ,aY,aZ]
     rfl
    refine aQ (i:=25) (N:=some 111) (v:=?_) (a':=?_) #[true,true,true,true,true,true,true,true,true,true,true,true,true,true,true,true,true,true,true,true,true,true,true,true,true,true] rfl rfl au (fun _ _ _ h=>h) (Or.inl ⟨by rfl,?_⟩) ?_ ?_
    rotate_left
    ·intro w'
     go_simp
     with_reducible rfl
    rotate_left
    ·simp only [Act.put,List.setIfInBounds_toArray,List.set_cons_zero,List.set_cons_succ,aY,aZ]
     rfl
    refine oU au ?_
    cases z
    ·skip
     obtain rfl:B=false:=Y9.out.trans sV
     go_wp2
     go_ret
     exact ⟨rfl,rB.out.hq.bl,fun h=>by cases h⟩
    ·skip
     have p1:=rB.out.q1
     go_wp2_with (first|(go_at_call 107;refine (BW rB.out.hq HDT.out HLN.out).mono ?_;rintro e w7 ⟨rfl,hs7,hb7,Yg⟩;have TN:=fU rB.out.hq.hq Yg (fun e=>HNE.out (Option.some.inj e).symm);have sy:=fU Yh.out Yg (Kd.NS rB.out.hq.hs Yh.out bC);have p7:w7.cell? ⟨gq,1,none⟩=some (.slice (some ⟨gm,0,none⟩) ms.length cv):=(af TN 1).trans rfl;have f7:=aa TN 1;have k0_ :=(af sy 0).trans rfl;have k1_ :=(af sy 1).trans rfl;have k2_ :=(af sy 2).trans rfl;have k3_ :=(af sy 3).trans rfl;have k4_ :=(af sy 4).trans rfl;have k5_ :=(af sy 5).trans rfl;have k6_ :=(af sy 6).trans rfl;have k7_ :=(af sy 7).trans rfl;have k8_ :=(af sy 8).trans rfl;have k9_ :=(af sy 9).trans rfl;have aor:=(af sy 10).trans rfl;have aos:=(af sy 11).trans rfl;have aot:=(af sy 12).trans rfl;have Za:=ah.mk (QW.put hb7 TN rB.out.hq.ge hs7);clear hs7 hb7 Yg TN sy))
     obtain rfl:B=true:=Y9.out.trans sV
     obtain rfl:N=n:=HNV.out.trans xO
     obtain rfl:M=ms.eraseIdx i:=HMV.out.trans xO
     go_ret
     exact ⟨rfl,Za.out.bl,fun _ =>⟨_,Za.out⟩⟩
   ·skip
    obtain rfl:B=false:=Y9.out.trans sV
    refine lU (n:=26) (S:=fun w'=>w'.cell? ⟨gq,0,none⟩=some (.int .i64 n)∧w'.cell? ⟨w.heap.size,4,none⟩=some (.int .i64 m.f0)∧w'.cell? ⟨w.heap.size,5,none⟩=some (.bool m.f1.f0)∧w'.cell? ⟨w.heap.size,6,none⟩=some (.slice A2 m.f1.f1.length c2)∧w'.cell? ⟨w.heap.size,7,none⟩=some (.string m.f1.f2.f0)∧w'.cell? ⟨w.heap.size,8,none⟩=some (.string m.f1.f2.f1)∧w'.cell? ⟨w.heap.size,9,none⟩=some (.bool m.f1.f2.f2)∧w'.cell? ⟨w.heap.size,10,none⟩=some (.slice A6 m.f2.length c6)∧w'.cell? ⟨w.heap.size,11,none⟩=some (.slice A7 m.f3.length c7)∧w'.cell? ⟨w.heap.size,12,none⟩=some (.int .i64 m.f4)∧w'.cell? ⟨gm,i * 9,none⟩=some (.int .i64 x.f0)∧w'.cell? ⟨gm,i * 9 + 1,none⟩=some (.bool x.f1.f0)∧w'.cell? ⟨gm,i * 9 + 2,none⟩=some (.slice B2 x.f1.f1.length d2)∧w'.cell? ⟨gm,i * 9 + 3,none⟩=some (.string x.f1.f2.f0)∧w'.cell? ⟨gm,i * 9 + 4,none⟩=some (.string x.f1.f2.f1)∧w'.cell? ⟨gm,i * 9 + 5,none⟩=some (.bool x.f1.f2.f2)∧w'.cell? ⟨gm,i * 9 + 6,none⟩=some (.slice B6 x.f2.length d6)∧w'.cell? ⟨gm,i * 9 + 7,none⟩=some (.slice B7 x.f3.length d7)∧w'.cell? ⟨gm,i * 9 + 8,none⟩=some (.int .i64 x.f4)) (ds:=[]) #[false,false,false,false,false,false,false,false,false,false,false,false,false,false,false,false,false,false,false,false,false,false,false,false,false,false] au (by rfl) (by rfl) ⟨fX.out.q0,fX.out.c0,fX.out.c1,fX.out.c2,fX.out.c3,fX.out.c4,fX.out.c5,fX.out.c6,fX.out.c7,fX.out.c8,fX.out.x0,fX.out.x1,fX.out.x2,fX.out.x3,fX.out.x4,fX.out.x5,fX.out.x6,fX.out.x7,fX.out.x8⟩ (fun hHeld=>?_)
    refine aQ (i:=0) (N:=some 86) (v:=?_) (a':=?_) #[true,false,false,false,false,false,false,false,false,false,false,false,false,false,false,false,false,false,false,false,false,false,false,false,false,false] rfl rfl au (fun _ _ _ h=>h) (Or.inl ⟨by rfl,?_⟩) ?_ ?_
    rotate_left
    ·intro w'
     go_simp
     with_reducible rfl
    rotate_left
    ·simp only [Act.put,List.setIfInBounds_toArray,List.set_cons_zero,List.set_cons_succ,aY,aZ]
     rfl
    refine aQ (i:=1) (N:=some 87) (v:=?_) (a':=?_) #[true,true,false,false,false,false,false,false,false,false,false,false,false,false,false,false,false,false,false,false,false,false,false,false,false,false] rfl rfl au (fun _ _ _ h=>h) (Or.inl ⟨by rfl,?_⟩) ?_ ?_
    rotate_left
    ·intro w'
     go_simp
     with_reducible rfl
    rotate_left
    ·simp only [Act.put,List.setIfInBounds_toArray,List.set_cons_zero,List.set_cons_succ,aY,aZ]
     rfl
    refine aQ (i:=2) (N:=some 88) (v:=?_) (a':=?_) #[true,true,true,false,false,false,false,false,false,false,false,false,false,false,false,false,false,false,false,false,false,false,false,false,false,false] rfl rfl au (fun _ _ _ h=>h) (Or.inl ⟨by rfl,?_⟩) ?_ ?_
    rotate_left
    ·intro w'
     go_simp
     with_reducible rfl
    rotate_left
    ·simp only [Act.put,List.setIfInBounds_toArray,List.set_cons_zero,List.set_cons_succ,aY,aZ]
     rfl
    refine aQ (i:=3) (N:=some 89) (v:=?_) (a':=?_) #[true,true,true,true,false,false,false,false,false,false,false,false,false,false,false,false,false,false,false,false,false,false,false,false,false,false] rfl rfl au (fun _ _ _ h=>h) (Or.inl ⟨by rfl,?_⟩) ?_ ?_
    rotate_left
    ·intro w'
     go_simp
     with_reducible rfl
    rotate_left
    ·simp only [Act.put,List.setIfInBounds_toArray,List.set_cons_zero,List.set_cons_succ,aY,aZ]
     rfl
    refine aQ (i:=4) (N:=some 90) (v:=?_) (a':=?_) #[true,true,true,true,true,false,false,false,false,false,false,false,false,false,false,false,false,false,false,false,false,false,false,false,false,false] rfl rfl au (fun _ _ _ h=>h) (Or.inl ⟨by rfl,?_⟩) ?_ ?_
    rotate_left
    ·intro w'
     go_simp
     with_reducible rfl
    rotate_left
    ·simp only [Act.put,List.setIfInBounds_toArray,List.set_cons_zero,List.set_cons_succ,aY,aZ]
     rfl
    refine aQ (i:=6) (N:=some 92) (v:=?_) (a':=?_) #[true,true,true,true,true,false,true,false,false,false,false,false,false,false,false,false,false,false,false,false,false,false,false,false,false,false] rfl rfl au (fun _ _ _ h=>h) (Or.inl ⟨by rfl,?_⟩) ?_ ?_
    rotate_left
    ·intro w'
     go_simp
     with_reducible rfl
    rotate_left
    ·simp only [Act.put,List.setIfInBounds_toArray,List.set_cons_zero,List.set_cons_succ,aY,aZ]
     rfl
    refine aQ (i:=7) (N:=some 93) (v:=?_) (a':=?_) #[true,true,true,true,true,false,true,true,false,false,false,false,false,false,false,false,false,false,false,false,false,false,false,false,false,false] rfl rfl au (fun _ _ _ h=>h) (Or.inl ⟨by rfl,?_⟩) ?_ ?_
    rotate_left
    ·intro w'
     go_simp
     with_reducible rfl
    rotate_left
    ·simp only [Act.put,List.setIfInBounds_toArray,List.set_cons_zero,List.set_cons_succ,aY,aZ]
     rfl
    refine aQ (i:=9) (N:=some 95) (v:=?_) (a':=?_) #[true,true,true,true,true,false,true,true,false,true,false,false,false,false,false,false,false,false,false,false,false,false,false,false,false,false] rfl rfl au (fun _ _ _ h=>h) (Or.inl ⟨by rfl,?_⟩) ?_ ?_
    rotate_left
    ·intro w'
     go_simp
     with_reducible rfl
    rotate_left
    ·simp only [Act.put,List.setIfInBounds_toArray,List.set_cons_zero,List.set_cons_succ,aY,aZ]
     rfl
    refine aQ (i:=10) (N:=some 96) (v:=?_) (a':=?_) #[true,true,true,true,true,false,true,true,false,true,true,false,false,false,false,false,false,false,false,false,false,false,false,false,false,false] rfl rfl au (fun _ _ _ h=>h) (Or.inl ⟨by rfl,?_⟩) ?_ ?_
    rotate_left
    ·intro w'
     go_simp
     with_reducible rfl
    rotate_left
    ·simp only [Act.put,List.setIfInBounds_toArray,List.set_cons_zero,List.set_cons_succ,aY,aZ]
     rfl
    refine aQ (i:=11) (N:=some 97) (v:=?_) (a':=?_) #[true,true,true,true,true,false,true,true,false,true,true,true,false,false,false,false,false,false,false,false,false,false,false,false,false,false] rfl rfl au (fun _ _ _ h=>h) (Or.inl ⟨by rfl,?_⟩) ?_ ?_
    rotate_left
    ·intro w'
     go_simp
     with_reducible rfl
    rotate_left
    ·simp only [Act.put,List.setIfInBounds_toArray,List.set_cons_zero,List.set_cons_succ,aY,aZ]
     rfl
    refine gv (i:=5) (N:=some 91) (v:=?_) (a':=?_) #[true,true,true,true,true,true,true,true,false,true,true,true,false,false,false,false,false,false,false,false,false,false,false,false,false,false] rfl rfl au (fun _ _ _ h=>h) (Or.inl ⟨by rfl,?_⟩) hHeld ?_ ?_
    rotate_left
    ·rintro w' ⟨s0,s1,s2,s3,s4,s5,s6,s7,s8,s9,F6,F9,s12,Gp,Gq,Gr,Gs,Gt,Gu⟩
     go_simp
     with_reducible rfl
    rotate_left
    ·simp only [Act.put,List.setIfInBounds_toArray,List.set_cons_zero,List.set_cons_succ,aY,aZ]
     rfl
    refine gv (i:=8) (N:=some 94) (v:=?_) (a':=?_) #[true,true,true,true,true,true,true,true,true,true,true,true,false,false,false,false,false,false,false,false,false,false,false,false,false,false] rfl rfl au (fun _ _ _ h=>h) (Or.inl ⟨by rfl,?_⟩) hHeld ?_ ?_
    rotate_left
    ·rintro w' ⟨s0,s1,s2,s3,s4,s5,s6,s7,s8,s9,F6,F9,s12,Gp,Gq,Gr,Gs,Gt,Gu⟩
     go_simp
     with_reducible rfl
    rotate_left
    ·simp only [Act.put,List.setIfInBounds_toArray,List.set_cons_zero,List.set_cons_succ,aY,aZ]
     rfl
    refine gv (i:=12) (N:=some 98) (v:=?_) (a':=?_) #[true,true,true,true,true,true,true,true,true,true,true,true,true,false,false,false,false,false,false,false,false,false,false,false,false,false] rfl rfl au (fun _ _ _ h=>h) (Or.inl ⟨by rfl,?_⟩) hHeld ?_ ?_
    rotate_left
    ·rintro w' ⟨s0,s1,s2,s3,s4,s5,s6,s7,s8,s9,F6,F9,s12,Gp,Gq,Gr,Gs,Gt,Gu⟩
     go_simp
     with_reducible rfl
    rotate_left
    ·simp only [Act.put,List.setIfInBounds_toArray,List.set_cons_zero,List.set_cons_succ,aY,aZ]
     rfl
    refine pq (i:=13) (N:=some 99) #[true,true,true,true,true,true,true,true,true,true,true,true,true,true,false,false,false,false,false,false,false,false,false,false,false,false] rfl rfl au bC (fun K hK=>?_)
    refine mH Tryz.func106 au rfl #[.agg #[.int .i64 m.f0,.bool m.f1.f0,.slice A2 m.f1.f1.length c2,.string m.f1.f2.f0,.string m.f1.f2.f1,.bool m.f1.f2.f2,.slice A6 m.f2.length c6,.slice A7 m.f3.length c7,.int .i64 m.f4],.agg #[.int .i64 x.f0,.bool x.f1.f0,.slice B2 x.f1.f1.length d2,.string x.f1.f2.f0,.string x.f1.f2.f1,.bool x.f1.f2.f2,.slice B6 x.f2.length d6,.slice B7 x.f3.length d7,.int .i64 x.f4],.int .i64 n] (by rfl) rfl rfl uV ?_
    with_reducible refine (HBO.out).mono ?_
    rintro e w5 ⟨rfl,xB⟩
    refine ⟨_,rfl,?_⟩
    have gM:=ah.mk (fX.out.below xB)
    have Ku:=ah.mk (az Vk.out xB)
    clear xB
    refine hK.out _ _ ⟨gM.out.q0,gM.out.c0,gM.out.c1,gM.out.c2,gM.out.c3,gM.out.c4,gM.out.c5,gM.out.c6,gM.out.c7,gM.out.c8,gM.out.x0,gM.out.x1,gM.out.x2,gM.out.x3,gM.out.x4,gM.out.x5,gM.out.x6,gM.out.x7,gM.out.x8⟩ (fun hHeld=>?_)
    clear hK K
    refine kX (a':=?_) ?_ ?_
    rotate_left
    ·show Act.put _ (some 99) _=_
     simp only [Act.put,List.setIfInBounds_toArray,List.set_cons_zero,List.set_cons_succ,aY,aZ]
     rfl
    refine aQ (i:=14) (N:=some 100) (v:=?_) (a':=?_) #[true,true,true,true,true,true,true,true,true,true,true,true,true,true,true,false,false,false,false,false,false,false,false,false,false,false] rfl rfl au (fun _ _ _ h=>h) (Or.inl ⟨by rfl,?_⟩) ?_ ?_
    rotate_left
    ·intro w'
     go_simp
     with_reducible rfl
    rotate_left
    ·simp only [Act.put,List.setIfInBounds_toArray,List.set_cons_zero,List.set_cons_succ,aY,aZ]
     rfl
    refine aQ (i:=15) (N:=some 101) (v:=?_) (a':=?_) #[true,true,true,true,true,true,true,true,true,true,true,true,true,true,true,true,false,false,false,false,false,false,false,false,false,false] rfl rfl au (fun _ _ _ h=>h) (Or.inl ⟨by rfl,?_⟩) ?_ ?_
    rotate_left
    ·intro w'
     go_simp
     with_reducible rfl
    rotate_left
    ·simp only [Act.put,List.setIfInBounds_toArray,List.set_cons_zero,List.set_cons_succ,aY,aZ]
     rfl
    refine aQ (i:=16) (N:=some 102) (v:=?_) (a':=?_) #[true,true,true,true,true,true,true,true,true,true,true,true,true,true,true,true,true,false,false,false,false,false,false,false,false,false] rfl rfl au (fun _ _ _ h=>h) (Or.inl ⟨by rfl,?_⟩) ?_ ?_
    rotate_left
    ·intro w'
     go_simp
     with_reducible rfl
    rotate_left
    ·simp only [Act.put,List.setIfInBounds_toArray,List.set_cons_zero,List.set_cons_succ,aY,aZ]
     rfl
    refine aQ (i:=17) (N:=some 103) (v:=undef) (a':=?_) #[true,true,true,true,true,true,true,true,true,true,true,true,true,true,true,true,true,true,false,false,false,false,false,false,false,false] rfl rfl au (fun _ _ _ h=>h) (Or.inr ⟨by rfl,rfl⟩) ?_ ?_
    rotate_left
    ·simp only [Act.put,List.setIfInBounds_toArray,List.set_cons_zero,List.set_cons_succ,aY,aZ]
     rfl
    refine aQ (i:=18) (N:=some 104) (v:=undef) (a':=?_) #[true,true,true,true,true,true,true,true,true,true,true,true,true,true,true,true,true,true,true,false,false,false,false,false,false,false] rfl rfl au (fun _ _ _ h=>h) (Or.inr ⟨by rfl,rfl⟩) ?_ ?_
    rotate_left
    ·simp only [Act.put,List.setIfInBounds_toArray,List.set_cons_zero,List.set_cons_succ,aY,aZ]
     rfl
    refine aQ (i:=19) (N:=some 105) (v:=undef) (a':=?_) #[true,true,true,true,true,true,true,true,true,true,true,true,true,true,true,true,true,true,true,true,false,false,false,false,false,false] rfl rfl au (fun _ _ _ h=>h) (Or.inr ⟨by rfl,rfl⟩) ?_ ?_
    rotate_left
    ·simp only [Act.put,List.setIfInBounds_toArray,List.set_cons_zero,List.set_cons_succ,aY,aZ]
     rfl
    refine aQ (i:=20) (N:=some 106) (v:=undef) (a':=?_) #[true,true,true,true,true,true,true,true,true,true,true,true,true,true,true,true,true,true,true,true,true,false,false,false,false,false] rfl rfl au (fun _ _ _ h=>h) (Or.inr ⟨by rfl,rfl⟩) ?_ ?_
    rotate_left
    ·simp only [Act.put,List.setIfInBounds_toArray,List.set_cons_zero,List.set_cons_succ,aY,aZ]
     rfl
    refine aQ (i:=21) (N:=some 107) (v:=undef) (a':=?_) #[true,true,true,true,true,true,true,true,true,true,true,true,true,true,true,true,true,true,true,true,true,true,false,false,false,false] rfl rfl au (fun _ _ _ h=>h) (Or.inr ⟨by rfl,rfl⟩) ?_ ?_
    rotate_left
    ·simp only [Act.put,List.setIfInBounds_toArray,List.set_cons_zero,List.set_cons_succ,aY,aZ]
     rfl
    refine aQ (i:=22) (N:=some 108) (v:=undef) (a':=?_) #[true,true,true,true,true,true,true,true,true,true,true,true,true,true,true,true,true,true,true,true,true,true,true,false,false,false] rfl rfl au (fun _ _ _ h=>h) (Or.inr ⟨by rfl,rfl⟩) ?_ ?_
    rotate_left
    ·simp only [Act.put,List.setIfInBounds_toArray,List.set_cons_zero,List.set_cons_succ,aY,aZ]
     rfl
    refine aQ (i:=23) (N:=some 109) (v:=undef) (a':=?_) #[true,true,true,true,true,true,true,true,true,true,true,true,true,true,true,true,true,true,true,true,true,true,true,true,false,false] rfl rfl au (fun _ _ _ h=>h) (Or.inr ⟨by rfl,rfl⟩) ?_ ?_
    rotate_left
    ·simp only [Act.put,List.setIfInBounds_toArray,List.set_cons_zero,List.set_cons_succ,aY,aZ]
     rfl
    refine aQ (i:=24) (N:=some 110) (v:=undef) (a':=?_) #[true,true,true,true,true,true,true,true,true,true,true,true,true,true,true,true,true,true,true,true,true,true,true,true,true,false] rfl rfl au (fun _ _ _ h=>h) (Or.inr ⟨by rfl,rfl⟩) ?_ ?_
    rotate_left
    ·simp only [Act.put,List.setIfInBounds_toArray,List.set_cons_zero,List.set_cons_succ,aY,aZ]
     rfl
    refine aQ (i:=25) (N:=some 111) (v:=?_) (a':=?_) #[true,true,true,true,true,true,true,true,true,true,true,true,true,true,true,true,true,true,true,true,true,true,true,true,true,true] rfl rfl au (fun _ _ _ h=>h) (Or.inl ⟨by rfl,?_⟩) ?_ ?_
    rotate_left
    ·intro w'
     go_simp
     with_reducible rfl
    rotate_left
    ·simp only [Act.put,List.setIfInBounds_toArray,List.set_cons_zero,List.set_cons_succ,aY,aZ]
     rfl
    refine oU au ?_
    go_wp2
    go_ret
    exact ⟨rfl,gM.out.hq.bl,fun h=>by cases h⟩
end Go.Proofs.YtbjjaaodfbjkfaaGreatDoor.ow
