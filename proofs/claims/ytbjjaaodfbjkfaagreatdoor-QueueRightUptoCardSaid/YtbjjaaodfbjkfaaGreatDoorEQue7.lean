import Derived.Test.YtbjjaaodfbjkfaaGreatDoorEQue5
import Derived.Test.YtbjjaaodfbjkfaaGreatDoorESettled
import Derived.Test.YtbjjaaodfbjkfaaGreatDoorQQux13
namespace Go.Proofs.YtbjjaaodfbjkfaaGreatDoor.mN
open Go.RowKit Go.Proofs.ak.bQ Go.Proofs.ak.dA Go.Proofs.ak.cX
set_option linter.unusedVariables false
set_option linter.unusedSimpArgs false
structure CW (w0 w W:World) (gq gm i:Nat) (n:Int) (v:Value) (ms:List Ml) (m x:Ml) (A2:Option Addr) (c2:Nat) (A6:Option Addr) (c6:Nat) (A7:Option Addr) (c7:Nat) (B2:Option Addr) (d2:Nat) (B6:Option Addr) (d6:Nat) (B7:Option Addr) (d7:Nat):Prop where
 bl:Below w.heap.size w W
 hq:QW w0 W gq n v ms
 q0:W.cell? ⟨gq,0,none⟩=some (.int .i64 n)
 q1:W.cell? ⟨gq,1,none⟩=some v
 c0:W.cell? ⟨w.heap.size,4,none⟩=some (.int .i64 m.f0)
 c1:W.cell? ⟨w.heap.size,5,none⟩=some (.bool m.f1.f0)
 c2:W.cell? ⟨w.heap.size,6,none⟩=some (.slice A2 m.f1.f1.length c2)
 c3:W.cell? ⟨w.heap.size,7,none⟩=some (.string m.f1.f2.f0)
 c4:W.cell? ⟨w.heap.size,8,none⟩=some (.string m.f1.f2.f1)
 c5:W.cell? ⟨w.heap.size,9,none⟩=some (.bool m.f1.f2.f2)
 c6:W.cell? ⟨w.heap.size,10,none⟩=some (.slice A6 m.f2.length c6)
 c7:W.cell? ⟨w.heap.size,11,none⟩=some (.slice A7 m.f3.length c7)
 c8:W.cell? ⟨w.heap.size,12,none⟩=some (.int .i64 m.f4)
 x0:W.cell? ⟨gm,i * 9,none⟩=some (.int .i64 x.f0)
 x1:W.cell? ⟨gm,i * 9 + 1,none⟩=some (.bool x.f1.f0)
 x2:W.cell? ⟨gm,i * 9 + 2,none⟩=some (.slice B2 x.f1.f1.length d2)
 x3:W.cell? ⟨gm,i * 9 + 3,none⟩=some (.string x.f1.f2.f0)
 x4:W.cell? ⟨gm,i * 9 + 4,none⟩=some (.string x.f1.f2.f1)
 x5:W.cell? ⟨gm,i * 9 + 5,none⟩=some (.bool x.f1.f2.f2)
 x6:W.cell? ⟨gm,i * 9 + 6,none⟩=some (.slice B6 x.f2.length d6)
 x7:W.cell? ⟨gm,i * 9 + 7,none⟩=some (.slice B7 x.f3.length d7)
 x8:W.cell? ⟨gm,i * 9 + 8,none⟩=some (.int .i64 x.f4)
theorem CW.below {w0 w W W1:World} {gq gm i:Nat} {n:Int} {v:Value} {ms:List Ml} {m x:Ml} {A2:Option Addr} {c2:Nat} {A6:Option Addr} {c6:Nat} {A7:Option Addr} {c7:Nat} {B2:Option Addr} {d2:Nat} {B6:Option Addr} {d6:Nat} {B7:Option Addr} {d7:Nat}
 (h:CW w0 w W gq gm i n v ms m x A2 c2 A6 c6 A7 c7 B2 d2 B6 d6 B7 d7) (hb:Below W.heap.size W W1):CW w0 w W1 gq gm i n v ms m x A2 c2 A6 c6 A7 c7 B2 d2 B6 d6 B7 d7:=
 have g:=fun {a:Addr} {u:Value} (hc:W.cell? a=some u)=>lS hb hc
 ⟨cj h.bl h.bl.size hb,h.hq.below hb,g h.q0,g h.q1,g h.c0,g h.c1,g h.c2,g h.c3,g h.c4,g h.c5,g h.c6,g h.c7,g h.c8,g h.x0,g h.x1,g h.x2,g h.x3,g h.x4,g h.x5,g h.x6,g h.x7,g h.x8⟩
variable {w0 w:World} {gq:Nat} {n:Int} {v:Value} {ms:List Ml} {kind id at_ due:Int} {m:Ml} {A2:Option Addr} {c2:Nat} {A6:Option Addr} {c6:Nat} {A7:Option Addr} {c7:Nat}
theorem zD {w w1:World} (h:Below w.heap.size w w1):Below w.heap.size w w1.drew:=fW h
theorem Ax {w0 W:World} {gq gm cv i:Nat} {n:Int} {ms:List Ml} (hq:QW w0 W gq n (.slice (some ⟨gm,0,none⟩) ms.length cv) ms) (hi:i < ms.length) (hl:ms.length * 136≤140737488355328):
 Calls Tryz.prog 107 #[.slice (some ⟨gm,0,none⟩) ms.length cv,.int .i64 i,.int .i64 (wrap64 ((i:Int) + 1))] W fun e w'=>e= .returned (.slice (some ⟨gm,0,none⟩) (ms.length - 1) cv)∧Kd.S DT 34 w' w0.heap.size (fun _ =>True) (.slice (some ⟨gm,0,none⟩) (ms.length - 1) cv) (ms.eraseIdx i)∧Below w0.heap.size w0 w'∧W.grownBy w' (some gm):=by
 have ew:wrap64 ((i:Int) + 1)=(i:Int) + 1:=by unfold wrap64;omega
 rw [ew]
 exact Ht ms gm cv i w0.heap.size w0 W hq.hs hi hq.bl hq.bl.size
def Close (owes b z:Bool) (done:Bool):Bool:=done && (owes == b && (owes || z))
set_option maxRecDepth 100000 in
set_option maxHeartbeats 16000000 in
theorem DW (hW:QW w0 w gq n v ms) (hR:MR w0 m A2 c2 A6 c6 A7 c7) (hk:kind=5) (i:Nat) (x:Ml) (hi:lu id ms 0=i) (hx:ms[i]? =some x) (b z:Bool)
 (hbo:(!hasB x.f2 0)=true→dB.f m.f0 m.f1.f0 m.f1.f1 m.f1.f2.f0 m.f1.f2.f1 m.f1.f2.f2 m.f2 m.f3 m.f4 x.f0 x.f1.f0 x.f1.f1 x.f1.f2.f0 x.f1.f2.f1 x.f1.f2.f2 x.f2 x.f3 x.f4 n=some b) (hno:cY.f m.f0 m.f1.f0 m.f1.f1 m.f1.f2.f0 m.f1.f2.f1 m.f1.f2.f2 m.f2 m.f3 m.f4=some z)
 (hown:rP m) (hlen:ms.length * 136≤140737488355328) (B:Bool) (N:Int) (M:List Ml) (hB:B=Close (hasB x.f2 2 && !x.f1.f0) b z (!hasB x.f2 0)) (hN:N=if (hasB x.f2 2 && !x.f1.f0)=true then wrap64 (m.f0 + 1) else n) (hM:M=if (hasB x.f2 2 && !x.f1.f0)=true then ms.eraseIdx i ++ [m] else ms.eraseIdx i):
 Calls Tryz.prog 59 #[.pointer (some ⟨gq,0,none⟩),.agg (fD kind id at_ due m A2 c2 A6 c6 A7 c7)] w (FR w0 gq B N M):=by
 subst hk
 have hu1:=Tryz.underlying46
 have hu2:=Tryz.underlying40
 have hu3:=Tryz.underlying34
 obtain ⟨Av,cv,rfl⟩:=Kd.iF hW.hs
 have hil:i < ms.length:=(List.getElem?_eq_some_iff.1 hx).1
 have hll:(ms.eraseIdx i).length=ms.length - 1:=by rw [List.length_eraseIdx,if_pos hil]
 have uz:=ah.mk (hW.below (bW (Below.refl _ _) (.cells (fD 5 id at_ due m A2 c2 A6 c6 A7 c7) 46)))
 have mU:=ah.mk (bW (Below.refl w.heap.size w) (.cells (fD 5 id at_ due m A2 c2 A6 c6 A7 c7) 46))
 have hq1:(w.alloc (.cells (fD 5 id at_ due m A2 c2 A6 c6 A7 c7) 46)).cell? ⟨gq,1,none⟩=some (.slice Av ms.length cv):=(af uz.out.hq 1).trans rfl
 have HI:=ah.mk (uy ms id Av cv w.heap.size (w.alloc (.cells (fD 5 id at_ due m A2 c2 A6 c6 A7 c7) 46)) (Kd.fq uz.out.hs).2.2 ((af (iE w _) 1).trans rfl))
 rw [hi] at HI
 have HX:=ah.mk hx
 have er:decide ((i:Int) < 0)=false:=decide_eq_false aA
 have C6:=ah.mk (iE w (.cells (fD 5 id at_ due m A2 c2 A6 c6 A7 c7) 46))
 have HGQ:=ah.mk (show gq < w.heap.size from dQ hW.hq)
 have HHL:=ah.mk hll
 clear hll
 have HNO:=ah.mk (fun W (hb:Below w0.heap.size w0 W)=>cY.calls m.f0 m.f1.f0 A2 c2 m.f1.f1 m.f1.f2.f0 m.f1.f2.f1 m.f1.f2.f2 A6 c6 m.f2 A7 c7 m.f3 m.f4 z W (hR.below hb).r2 hR.c2 (hR.below hb).r6 hR.c6 (hR.below hb).r7 hR.c7 hno)
 have yl:=ah.mk hR
 have HOW:=ah.mk (DV hown)
 have HLN:=ah.mk hlen
 have HBF:=ah.mk hbo
 have HDT:=ah.mk hil
 clear hno hR hown hlen hbo hW hi hx
 have HST:=ah.mk (show kL.f x.f0 x.f1.f0 x.f1.f1 x.f1.f2.f0 x.f1.f2.f1 x.f1.f2.f2 x.f2 x.f3 x.f4=some (!hasB x.f2 0,hasB x.f2 2) from rfl)
 obtain ⟨d0,hd0⟩:∃ d0,d0= !hasB x.f2 0:=⟨_,rfl⟩
 obtain ⟨f0,hf0⟩:∃ f0,f0=hasB x.f2 2:=⟨_,rfl⟩
 rw [← hd0,← hf0] at HST
 rw [← hd0,← hf0] at hB
 rw [← hf0] at hN hM
 rw [← hd0] at HBF
 have UI:=ah.mk hB
 have HNV:=ah.mk hN
 have HMV:=ah.mk hM
 clear hB hN hM hd0 hf0
 go_enter Tryz.func59,Tryz.ntmps59
 go_wp2_with (first|(go_at_call 104;refine HI.out.mono ?_;rintro e w1 ⟨rfl,hb1⟩;have z1:=ah.mk (uz.out.below hb1);have axf:=ah.mk (cj mU.out mU.out.size hb1);obtain ⟨gm,cm,v2,v6,v7,og,hv,hne,hcells,Fg,sQ,Au,hback⟩:=z1.out.Iq i x HX.out;injection hv with hv1 hv2 hv3;subst hv1 hv3;have HNE:=ah.mk hne;have QO:w1.cell? ⟨gq,1,none⟩=some (.slice (some ⟨gm,0,none⟩) ms.length cv):=(af z1.out.hq 1).trans rfl;obtain ⟨B2,d2,rfl⟩:=Kd.dh Fg;obtain ⟨B6,d6,rfl⟩:=Kd.dh sQ;obtain ⟨B7,d7,rfl⟩:=Kd.dh Au;have TG:=ah.mk (show CW w0 w w1 gq gm i n (.slice (some ⟨gm,0,none⟩) ms.length cv) ms m x A2 c2 A6 c6 A7 c7 B2 d2 B6 d6 B7 d7 from ⟨axf.out,z1.out,(af z1.out.hq 0).trans rfl,QO,(af (az C6.out hb1) 4).trans rfl,(af (az C6.out hb1) 5).trans rfl,(af (az C6.out hb1) 6).trans rfl,(af (az C6.out hb1) 7).trans rfl,(af (az C6.out hb1) 8).trans rfl,(af (az C6.out hb1) 9).trans rfl,(af (az C6.out hb1) 10).trans rfl,(af (az C6.out hb1) 11).trans rfl,(af (az C6.out hb1) 12).trans rfl,hcells 0 _ rfl,hcells 1 _ rfl,hcells 2 _ rfl,hcells 3 _ rfl,hcells 4 _ rfl,hcells 5 _ rfl,hcells 6 _ rfl,hcells 7 _ rfl,hcells 8 _ rfl⟩);have axh:=ah.mk (az C6.out hb1);have TH:=ah.mk (Kd.ck Fg);have UJ:=ah.mk (Kd.ck sQ);have HS7:=ah.mk (Kd.ck Au);have hc0:w1.cell? ⟨w.heap.size,0,none⟩=some (.int .u8 5):=(af (az C6.out hb1) 0).trans rfl;have hx0:=TG.out.x0;have hx1:=TG.out.x1;have hx2:=TG.out.x2;have hx3:=TG.out.x3;have RF:=TG.out.x4;have RA:=TG.out.x5;have Qw:=TG.out.x6;have Vn:=TG.out.x7;have hx8:=TG.out.x8;clear hb1 hcells hback Fg sQ Au hne)|(go_at_call 61;refine (kL.calls x.f0 x.f1.f0 B2 d2 x.f1.f1 x.f1.f2.f0 x.f1.f2.f1 x.f1.f2.f2 B6 d6 x.f2 B7 d7 x.f3 x.f4 _ _ w1 TH.out.2.2 TH.out.2.1 UJ.out.2.2 UJ.out.2.1 HS7.out.2.2 HS7.out.2.1 HST.out).mono ?_;rintro e w4 ⟨rfl,hb4⟩;have fy:=ah.mk (TG.out.below (zD hb4));have QV:=ah.mk (az axh.out (zD hb4));have HT2:=ah.mk (Kd.Le (Kd.bD TH.out.2.2 hb4));have HT6:=ah.mk (Kd.Le (Kd.bD UJ.out.2.2 hb4));have HT7:=ah.mk (Kd.Le (Kd.bD HS7.out.2.2 hb4));have hy1:w4.cell? ⟨gm,i * 9 + 1,none⟩=some (.bool x.f1.f0):=(TG.out.below hb4).x1;have HBQ:=ah.mk (z1.out.below hb4);clear hb4))
 ·have hf:f0=true:=by assumption
  cases d0
  ·skip
   obtain rfl:B=false:=UI.out.trans (by simp [Close])
   clear hf
   refine kK (n:=26) (S:=fun w'=>w'.cell? ⟨gq,0,none⟩=some (.int .i64 n)∧w'.cell? ⟨w.heap.size,4,none⟩=some (.int .i64 m.f0)∧w'.cell? ⟨w.heap.size,5,none⟩=some (.bool m.f1.f0)∧w'.cell? ⟨w.heap.size,6,none⟩=some (.slice A2 m.f1.f1.length c2)∧w'.cell? ⟨w.heap.size,7,none⟩=some (.string m.f1.f2.f0)∧w'.cell? ⟨w.heap.size,8,none⟩=some (.string m.f1.f2.f1)∧w'.cell? ⟨w.heap.size,9,none⟩=some (.bool m.f1.f2.f2)∧w'.cell? ⟨w.heap.size,10,none⟩=some (.slice A6 m.f2.length c6)∧w'.cell? ⟨w.heap.size,11,none⟩=some (.slice A7 m.f3.length c7)∧w'.cell? ⟨w.heap.size,12,none⟩=some (.int .i64 m.f4)∧w'.cell? ⟨gm,i * 9,none⟩=some (.int .i64 x.f0)∧w'.cell? ⟨gm,i * 9 + 1,none⟩=some (.bool x.f1.f0)∧w'.cell? ⟨gm,i * 9 + 2,none⟩=some (.slice B2 x.f1.f1.length d2)∧w'.cell? ⟨gm,i * 9 + 3,none⟩=some (.string x.f1.f2.f0)∧w'.cell? ⟨gm,i * 9 + 4,none⟩=some (.string x.f1.f2.f1)∧w'.cell? ⟨gm,i * 9 + 5,none⟩=some (.bool x.f1.f2.f2)∧w'.cell? ⟨gm,i * 9 + 6,none⟩=some (.slice B6 x.f2.length d6)∧w'.cell? ⟨gm,i * 9 + 7,none⟩=some (.slice B7 x.f3.length d7)∧w'.cell? ⟨gm,i * 9 + 8,none⟩=some (.int .i64 x.f4)) (ds:=[]) #[false,false,false,false,false,false,false,false,false,false,false,false,false,false,false,false,false,false,false,false,false,false,false,false,false,false] aq (by rfl) (by rfl) ⟨fy.out.q0,fy.out.c0,fy.out.c1,fy.out.c2,fy.out.c3,fy.out.c4,fy.out.c5,fy.out.c6,fy.out.c7,fy.out.c8,fy.out.x0,fy.out.x1,fy.out.x2,fy.out.x3,fy.out.x4,fy.out.x5,fy.out.x6,fy.out.x7,fy.out.x8⟩ (fun hHeld=>?_)
   refine aN (i:=0) (N:=some 86) (v:=?_) (a':=?_) #[true,false,false,false,false,false,false,false,false,false,false,false,false,false,false,false,false,false,false,false,false,false,false,false,false,false] rfl rfl aq (fun _ _ _ h=>h) (Or.inl ⟨by rfl,?_⟩) ?_ ?_
   rotate_left
   ·intro w'
    go_simp
    with_reducible rfl
   rotate_left
   ·simp only [Act.put,List.setIfInBounds_toArray,List.set_cons_zero,List.set_cons_succ,aU,aV]
    rfl
   refine aN (i:=1) (N:=some 87) (v:=?_) (a':=?_) #[true,true,false,false,false,false,false,false,false,false,false,false,false,false,false,false,false,false,false,false,false,false,false,false,false,false] rfl rfl aq (fun _ _ _ h=>h) (Or.inl ⟨by rfl,?_⟩) ?_ ?_
   rotate_left
   ·intro w'
    go_simp
    with_reducible rfl
   rotate_left
   ·simp only [Act.put,List.setIfInBounds_toArray,List.set_cons_zero,List.set_cons_succ,aU,aV]
    rfl
   refine aN (i:=2) (N:=some 88) (v:=?_) (a':=?_) #[true,true,true,false,false,false,false,false,false,false,false,false,false,false,false,false,false,false,false,false,false,false,false,false,false,false] rfl rfl aq (fun _ _ _ h=>h) (Or.inl ⟨by rfl,?_⟩) ?_ ?_
   rotate_left
   ·intro w'
    go_simp
    with_reducible rfl
   rotate_left
   ·simp only [Act.put,List.setIfInBounds_toArray,List.set_cons_zero,List.set_cons_succ,aU,aV]
    rfl
   refine aN (i:=3) (N:=some 89) (v:=undef) (a':=?_) #[true,true,true,true,false,false,false,false,false,false,false,false,false,false,false,false,false,false,false,false,false,false,false,false,false,false] rfl rfl aq (fun _ _ _ h=>h) (Or.inr ⟨by rfl,rfl⟩) ?_ ?_
   rotate_left
   ·simp only [Act.put,List.setIfInBounds_toArray,List.set_cons_zero,List.set_cons_succ,aU,aV]
    rfl
   refine aN (i:=4) (N:=some 90) (v:=undef) (a':=?_) #[true,true,true,true,true,false,false,false,false,false,false,false,false,false,false,false,false,false,false,false,false,false,false,false,false,false] rfl rfl aq (fun _ _ _ h=>h) (Or.inr ⟨by rfl,rfl⟩) ?_ ?_
   rotate_left
   ·simp only [Act.put,List.setIfInBounds_toArray,List.set_cons_zero,List.set_cons_succ,aU,aV]
    rfl
   refine aN (i:=5) (N:=some 91) (v:=undef) (a':=?_) #[true,true,true,true,true,true,false,false,false,false,false,false,false,false,false,false,false,false,false,false,false,false,false,false,false,false] rfl rfl aq (fun _ _ _ h=>h) (Or.inr ⟨by rfl,rfl⟩) ?_ ?_
   rotate_left
   ·simp only [Act.put,List.setIfInBounds_toArray,List.set_cons_zero,List.set_cons_succ,aU,aV]
    rfl
   refine aN (i:=6) (N:=some 92) (v:=undef) (a':=?_) #[true,true,true,true,true,true,true,false,false,false,false,false,false,false,false,false,false,false,false,false,false,false,false,false,false,false] rfl rfl aq (fun _ _ _ h=>h) (Or.inr ⟨by rfl,rfl⟩) ?_ ?_
   rotate_left
   ·simp only [Act.put,List.setIfInBounds_toArray,List.set_cons_zero,List.set_cons_succ,aU,aV]
    rfl
   refine aN (i:=7) (N:=some 93) (v:=undef) (a':=?_) #[true,true,true,true,true,true,true,true,false,false,false,false,false,false,false,false,false,false,false,false,false,false,false,false,false,false] rfl rfl aq (fun _ _ _ h=>h) (Or.inr ⟨by rfl,rfl⟩) ?_ ?_
   rotate_left
   ·simp only [Act.put,List.setIfInBounds_toArray,List.set_cons_zero,List.set_cons_succ,aU,aV]
    rfl
   refine aN (i:=8) (N:=some 94) (v:=undef) (a':=?_) #[true,true,true,true,true,true,true,true,true,false,false,false,false,false,false,false,false,false,false,false,false,false,false,false,false,false] rfl rfl aq (fun _ _ _ h=>h) (Or.inr ⟨by rfl,rfl⟩) ?_ ?_
   rotate_left
   ·simp only [Act.put,List.setIfInBounds_toArray,List.set_cons_zero,List.set_cons_succ,aU,aV]
    rfl
   refine aN (i:=9) (N:=some 95) (v:=undef) (a':=?_) #[true,true,true,true,true,true,true,true,true,true,false,false,false,false,false,false,false,false,false,false,false,false,false,false,false,false] rfl rfl aq (fun _ _ _ h=>h) (Or.inr ⟨by rfl,rfl⟩) ?_ ?_
   rotate_left
   ·simp only [Act.put,List.setIfInBounds_toArray,List.set_cons_zero,List.set_cons_succ,aU,aV]
    rfl
   refine aN (i:=10) (N:=some 96) (v:=undef) (a':=?_) #[true,true,true,true,true,true,true,true,true,true,true,false,false,false,false,false,false,false,false,false,false,false,false,false,false,false] rfl rfl aq (fun _ _ _ h=>h) (Or.inr ⟨by rfl,rfl⟩) ?_ ?_
   rotate_left
   ·simp only [Act.put,List.setIfInBounds_toArray,List.set_cons_zero,List.set_cons_succ,aU,aV]
    rfl
   refine aN (i:=11) (N:=some 97) (v:=undef) (a':=?_) #[true,true,true,true,true,true,true,true,true,true,true,true,false,false,false,false,false,false,false,false,false,false,false,false,false,false] rfl rfl aq (fun _ _ _ h=>h) (Or.inr ⟨by rfl,rfl⟩) ?_ ?_
   rotate_left
   ·simp only [Act.put,List.setIfInBounds_toArray,List.set_cons_zero,List.set_cons_succ,aU,aV]
    rfl
   refine aN (i:=12) (N:=some 98) (v:=undef) (a':=?_) #[true,true,true,true,true,true,true,true,true,true,true,true,true,false,false,false,false,false,false,false,false,false,false,false,false,false] rfl rfl aq (fun _ _ _ h=>h) (Or.inr ⟨by rfl,rfl⟩) ?_ ?_
   rotate_left
   ·simp only [Act.put,List.setIfInBounds_toArray,List.set_cons_zero,List.set_cons_succ,aU,aV]
    rfl
   refine aN (i:=13) (N:=some 99) (v:=undef) (a':=?_) #[true,true,true,true,true,true,true,true,true,true,true,true,true,true,false,false,false,false,false,false,false,false,false,false,false,false] rfl rfl aq (fun _ _ _ h=>h) (Or.inr ⟨by rfl,rfl⟩) ?_ ?_
   rotate_left
   ·simp only [Act.put,List.setIfInBounds_toArray,List.set_cons_zero,List.set_cons_succ,aU,aV]
    rfl
   refine aN (i:=14) (N:=some 100) (v:=undef) (a':=?_) #[true,true,true,true,true,true,true,true,true,true,true,true,true,true,true,false,false,false,false,false,false,false,false,false,false,false] rfl rfl aq (fun _ _ _ h=>h) (Or.inr ⟨by rfl,rfl⟩) ?_ ?_
   rotate_left
   ·simp only [Act.put,List.setIfInBounds_toArray,List.set_cons_zero,List.set_cons_succ,aU,aV]
    rfl
   refine aN (i:=15) (N:=some 101) (v:=?_) (a':=?_) #[true,true,true,true,true,true,true,true,true,true,true,true,true,true,true,true,false,false,false,false,false,false,false,false,false,false] rfl rfl aq (fun _ _ _ h=>h) (Or.inl ⟨by rfl,?_⟩) ?_ ?_
   rotate_left
   ·intro w'
    go_simp
    with_reducible rfl
   rotate_left
   ·simp only [Act.put,List.setIfInBounds_toArray,List.set_cons_zero,List.set_cons_succ,aU,aV]
    rfl
   refine aN (i:=16) (N:=some 102) (v:=?_) (a':=?_) #[true,true,true,true,true,true,true,true,true,true,true,true,true,true,true,true,true,false,false,false,false,false,false,false,false,false] rfl rfl aq (fun _ _ _ h=>h) (Or.inl ⟨by rfl,?_⟩) ?_ ?_
   rotate_left
   ·intro w'
    go_simp
    with_reducible rfl
   rotate_left
   ·simp only [Act.put,List.setIfInBounds_toArray,List.set_cons_zero,List.set_cons_succ,aU,aV]
    rfl
   refine aN (i:=17) (N:=some 103) (v:=undef) (a':=?_) #[true,true,true,true,true,true,true,true,true,true,true,true,true,true,true,true,true,true,false,false,false,false,false,false,false,false] rfl rfl aq (fun _ _ _ h=>h) (Or.inr ⟨by rfl,rfl⟩) ?_ ?_
   rotate_left
   ·simp only [Act.put,List.setIfInBounds_toArray,List.set_cons_zero,List.set_cons_succ,aU,aV]
    rfl
   refine aN (i:=18) (N:=some 104) (v:=undef) (a':=?_) #[true,true,true,true,true,true,true,true,true,true,true,true,true,true,true,true,true,true,true,false,false,false,false,false,false,false] rfl rfl aq (fun _ _ _ h=>h) (Or.inr ⟨by rfl,rfl⟩) ?_ ?_
   rotate_left
   ·simp only [Act.put,List.setIfInBounds_toArray,List.set_cons_zero,List.set_cons_succ,aU,aV]
    rfl
   refine aN (i:=19) (N:=some 105) (v:=undef) (a':=?_) #[true,true,true,true,true,true,true,true,true,true,true,true,true,true,true,true,true,true,true,true,false,false,false,false,false,false] rfl rfl aq (fun _ _ _ h=>h) (Or.inr ⟨by rfl,rfl⟩) ?_ ?_
   rotate_left
   ·simp only [Act.put,List.setIfInBounds_toArray,List.set_cons_zero,List.set_cons_succ,aU,aV]
    rfl
   refine aN (i:=20) (N:=some 106) (v:=undef) (a':=?_) #[true,true,true,true,true,true,true,true,true,true,true,true,true,true,true,true,true,true,true,true,true,false,false,false,false,false] rfl rfl aq (fun _ _ _ h=>h) (Or.inr ⟨by rfl,rfl⟩) ?_ ?_
   rotate_left
   ·simp only [Act.put,List.setIfInBounds_toArray,List.set_cons_zero,List.set_cons_succ,aU,aV]
    rfl
   refine aN (i:=21) (N:=some 107) (v:=undef) (a':=?_) #[true,true,true,true,true,true,true,true,true,true,true,true,true,true,true,true,true,true,true,true,true,true,false,false,false,false] rfl rfl aq (fun _ _ _ h=>h) (Or.inr ⟨by rfl,rfl⟩) ?_ ?_
   rotate_left
   ·simp only [Act.put,List.setIfInBounds_toArray,List.set_cons_zero,List.set_cons_succ,aU,aV]
    rfl
   refine aN (i:=22) (N:=some 108) (v:=undef) (a':=?_) #[true,true,true,true,true,true,true,true,true,true,true,true,true,true,true,true,true,true,true,true,true,true,true,false,false,false] rfl rfl aq (fun _ _ _ h=>h) (Or.inr ⟨by rfl,rfl⟩) ?_ ?_
   rotate_left
   ·simp only [Act.put,List.setIfInBounds_toArray,List.set_cons_zero,List.set_cons_succ,aU,aV]
    rfl
   refine aN (i:=23) (N:=some 109) (v:=undef) (a':=?_) #[true,true,true,true,true,true,true,true,true,true,true,true,true,true,true,true,true,true,true,true,true,true,true,true,false,false] rfl rfl aq (fun _ _ _ h=>h) (Or.inr ⟨by rfl,rfl⟩) ?_ ?_
   rotate_left
   ·simp only [Act.put,List.setIfInBounds_toArray,List.set_cons_zero,List.set_cons_succ,aU,aV]
    rfl
   refine aN (i:=24) (N:=some 110) (v:=undef) (a':=?_) #[true,true,true,true,true,true,true,true,true,true,true,true,true,true,true,true,true,true,true,true,true,true,true,true,true,false] rfl rfl aq (fun _ _ _ h=>h) (Or.inr ⟨by rfl,rfl⟩) ?_ ?_
   rotate_left
   ·simp only [Act.put,List.setIfInBounds_toArray,List.set_cons_zero,List.set_cons_succ,aU,aV]
    rfl
   refine aN (i:=25) (N:=some 111) (v:=?_) (a':=?_) #[true,true,true,true,true,true,true,true,true,true,true,true,true,true,true,true,true,true,true,true,true,true,true,true,true,true] rfl rfl aq (fun _ _ _ h=>h) (Or.inl ⟨by rfl,?_⟩) ?_ ?_
   rotate_left
   ·intro w'
    go_simp
    with_reducible rfl
   rotate_left
   ·simp only [Act.put,List.setIfInBounds_toArray,List.set_cons_zero,List.set_cons_succ,aU,aV]
    rfl
   refine nk aq ?_
   go_wp2
   go_ret
   exact ⟨rfl,fy.out.hq.bl,fun h=>by cases h⟩
  ·skip
   have HBO:=ah.mk (dB.calls m.f0 m.f1.f0 A2 c2 m.f1.f1 m.f1.f2.f0 m.f1.f2.f1 m.f1.f2.f2 A6 c6 m.f2 A7 c7 m.f3 m.f4 x.f0 x.f1.f0 B2 d2 x.f1.f1 x.f1.f2.f0 x.f1.f2.f1 x.f1.f2.f2 B6 d6 x.f2 B7 d7 x.f3 x.f4 n _ w4.drew (yl.out.below fy.out.hq.bl).r2 yl.out.c2 (yl.out.below fy.out.hq.bl).r6 yl.out.c6 (yl.out.below fy.out.hq.bl).r7 yl.out.c7 HT2.out TH.out.2.1 HT6.out UJ.out.2.1 HT7.out HS7.out.2.1 (HBF.out rfl))
   cases hn:x.f1.f0
   ·skip
    have HN5:=ah.mk hn
    have HF5:=ah.mk hf
    clear hn hf
    cases b
    ·skip
     obtain rfl:B=false:=UI.out.trans vO
     refine kK (n:=26) (S:=fun w'=>w'.cell? ⟨gq,0,none⟩=some (.int .i64 n)∧w'.cell? ⟨w.heap.size,4,none⟩=some (.int .i64 m.f0)∧w'.cell? ⟨w.heap.size,5,none⟩=some (.bool m.f1.f0)∧w'.cell? ⟨w.heap.size,6,none⟩=some (.slice A2 m.f1.f1.length c2)∧w'.cell? ⟨w.heap.size,7,none⟩=some (.string m.f1.f2.f0)∧w'.cell? ⟨w.heap.size,8,none⟩=some (.string m.f1.f2.f1)∧w'.cell? ⟨w.heap.size,9,none⟩=some (.bool m.f1.f2.f2)∧w'.cell? ⟨w.heap.size,10,none⟩=some (.slice A6 m.f2.length c6)∧w'.cell? ⟨w.heap.size,11,none⟩=some (.slice A7 m.f3.length c7)∧w'.cell? ⟨w.heap.size,12,none⟩=some (.int .i64 m.f4)∧w'.cell? ⟨gm,i * 9,none⟩=some (.int .i64 x.f0)∧w'.cell? ⟨gm,i * 9 + 1,none⟩=some (.bool x.f1.f0)∧w'.cell? ⟨gm,i * 9 + 2,none⟩=some (.slice B2 x.f1.f1.length d2)∧w'.cell? ⟨gm,i * 9 + 3,none⟩=some (.string x.f1.f2.f0)∧w'.cell? ⟨gm,i * 9 + 4,none⟩=some (.string x.f1.f2.f1)∧w'.cell? ⟨gm,i * 9 + 5,none⟩=some (.bool x.f1.f2.f2)∧w'.cell? ⟨gm,i * 9 + 6,none⟩=some (.slice B6 x.f2.length d6)∧w'.cell? ⟨gm,i * 9 + 7,none⟩=some (.slice B7 x.f3.length d7)∧w'.cell? ⟨gm,i * 9 + 8,none⟩=some (.int .i64 x.f4)) (ds:=[]) #[false,false,false,false,false,false,false,false,false,false,false,false,false,false,false,false,false,false,false,false,false,false,false,false,false,false] aq (by rfl) (by rfl) ⟨fy.out.q0,fy.out.c0,fy.out.c1,fy.out.c2,fy.out.c3,fy.out.c4,fy.out.c5,fy.out.c6,fy.out.c7,fy.out.c8,fy.out.x0,fy.out.x1,fy.out.x2,fy.out.x3,fy.out.x4,fy.out.x5,fy.out.x6,fy.out.x7,fy.out.x8⟩ (fun hHeld=>?_)
     refine aN (i:=0) (N:=some 86) (v:=?_) (a':=?_) #[true,false,false,false,false,false,false,false,false,false,false,false,false,false,false,false,false,false,false,false,false,false,false,false,false,false] rfl rfl aq (fun _ _ _ h=>h) (Or.inl ⟨by rfl,?_⟩) ?_ ?_
     rotate_left
     ·intro w'
      go_simp
      with_reducible rfl
     rotate_left
     ·simp only [Act.put,List.setIfInBounds_toArray,List.set_cons_zero,List.set_cons_succ,aU,aV]
      rfl
     refine aN (i:=1) (N:=some 87) (v:=?_) (a':=?_) #[true,true,false,false,false,false,false,false,false,false,false,false,false,false,false,false,false,false,false,false,false,false,false,false,false,false] rfl rfl aq (fun _ _ _ h=>h) (Or.inl ⟨by rfl,?_⟩) ?_ ?_
     rotate_left
     ·intro w'
      go_simp
      with_reducible rfl
     rotate_left
     ·simp only [Act.put,List.setIfInBounds_toArray,List.set_cons_zero,List.set_cons_succ,aU,aV]
      rfl
     refine aN (i:=2) (N:=some 88) (v:=?_) (a':=?_) #[true,true,true,false,false,false,false,false,false,false,false,false,false,false,false,false,false,false,false,false,false,false,false,false,false,false] rfl rfl aq (fun _ _ _ h=>h) (Or.inl ⟨by rfl,?_⟩) ?_ ?_
     rotate_left
     ·intro w'
      go_simp
      with_reducible rfl
     rotate_left
     ·simp only [Act.put,List.setIfInBounds_toArray,List.set_cons_zero,List.set_cons_succ,aU,aV]
      rfl
     refine aN (i:=3) (N:=some 89) (v:=?_) (a':=?_) #[true,true,true,true,false,false,false,false,false,false,false,false,false,false,false,false,false,false,false,false,false,false,false,false,false,false] rfl rfl aq (fun _ _ _ h=>h) (Or.inl ⟨by rfl,?_⟩) ?_ ?_
     rotate_left
     ·intro w'
      go_simp
      with_reducible rfl
     rotate_left
     ·simp only [Act.put,List.setIfInBounds_toArray,List.set_cons_zero,List.set_cons_succ,aU,aV]
      rfl
     refine aN (i:=4) (N:=some 90) (v:=?_) (a':=?_) #[true,true,true,true,true,false,false,false,false,false,false,false,false,false,false,false,false,false,false,false,false,false,false,false,false,false] rfl rfl aq (fun _ _ _ h=>h) (Or.inl ⟨by rfl,?_⟩) ?_ ?_
     rotate_left
     ·intro w'
      go_simp
      with_reducible rfl
     rotate_left
     ·simp only [Act.put,List.setIfInBounds_toArray,List.set_cons_zero,List.set_cons_succ,aU,aV]
      rfl
     refine aN (i:=6) (N:=some 92) (v:=?_) (a':=?_) #[true,true,true,true,true,false,true,false,false,false,false,false,false,false,false,false,false,false,false,false,false,false,false,false,false,false] rfl rfl aq (fun _ _ _ h=>h) (Or.inl ⟨by rfl,?_⟩) ?_ ?_
     rotate_left
     ·intro w'
      go_simp
      with_reducible rfl
     rotate_left
     ·simp only [Act.put,List.setIfInBounds_toArray,List.set_cons_zero,List.set_cons_succ,aU,aV]
      rfl
     refine aN (i:=7) (N:=some 93) (v:=?_) (a':=?_) #[true,true,true,true,true,false,true,true,false,false,false,false,false,false,false,false,false,false,false,false,false,false,false,false,false,false] rfl rfl aq (fun _ _ _ h=>h) (Or.inl ⟨by rfl,?_⟩) ?_ ?_
     rotate_left
     ·intro w'
      go_simp
      with_reducible rfl
     rotate_left
     ·simp only [Act.put,List.setIfInBounds_toArray,List.set_cons_zero,List.set_cons_succ,aU,aV]
      rfl
     refine aN (i:=9) (N:=some 95) (v:=?_) (a':=?_) #[true,true,true,true,true,false,true,true,false,true,false,false,false,false,false,false,false,false,false,false,false,false,false,false,false,false] rfl rfl aq (fun _ _ _ h=>h) (Or.inl ⟨by rfl,?_⟩) ?_ ?_
     rotate_left
     ·intro w'
      go_simp
      with_reducible rfl
     rotate_left
     ·simp only [Act.put,List.setIfInBounds_toArray,List.set_cons_zero,List.set_cons_succ,aU,aV]
      rfl
     refine aN (i:=10) (N:=some 96) (v:=?_) (a':=?_) #[true,true,true,true,true,false,true,true,false,true,true,false,false,false,false,false,false,false,false,false,false,false,false,false,false,false] rfl rfl aq (fun _ _ _ h=>h) (Or.inl ⟨by rfl,?_⟩) ?_ ?_
     rotate_left
     ·intro w'
      go_simp
      with_reducible rfl
     rotate_left
     ·simp only [Act.put,List.setIfInBounds_toArray,List.set_cons_zero,List.set_cons_succ,aU,aV]
      rfl
     refine aN (i:=11) (N:=some 97) (v:=?_) (a':=?_) #[true,true,true,true,true,false,true,true,false,true,true,true,false,false,false,false,false,false,false,false,false,false,false,false,false,false] rfl rfl aq (fun _ _ _ h=>h) (Or.inl ⟨by rfl,?_⟩) ?_ ?_
     rotate_left
     ·intro w'
      go_simp
      with_reducible rfl
     rotate_left
     ·simp only [Act.put,List.setIfInBounds_toArray,List.set_cons_zero,List.set_cons_succ,aU,aV]
      rfl
     refine fN (i:=5) (N:=some 91) (v:=?_) (a':=?_) #[true,true,true,true,true,true,true,true,false,true,true,true,false,false,false,false,false,false,false,false,false,false,false,false,false,false] rfl rfl aq (fun _ _ _ h=>h) (Or.inl ⟨by rfl,?_⟩) hHeld ?_ ?_
     rotate_left
     ·rintro w' ⟨s0,s1,s2,s3,s4,s5,s6,s7,s8,s9,Ez,EC,s12,EP,ER,ES,ET,EU,EW⟩
      go_simp
      with_reducible rfl
     rotate_left
     ·simp only [Act.put,List.setIfInBounds_toArray,List.set_cons_zero,List.set_cons_succ,aU,aV]
      rfl
     refine fN (i:=8) (N:=some 94) (v:=?_) (a':=?_) #[true,true,true,true,true,true,true,true,true,true,true,true,false,false,false,false,false,false,false,false,false,false,false,false,false,false] rfl rfl aq (fun _ _ _ h=>h) (Or.inl ⟨by rfl,?_⟩) hHeld ?_ ?_
     rotate_left
     ·rintro w' ⟨s0,s1,s2,s3,s4,s5,s6,s7,s8,s9,Ez,EC,s12,EP,ER,ES,ET,EU,EW⟩
      go_simp
      with_reducible rfl
     rotate_left
     ·simp only [Act.put,List.setIfInBounds_toArray,List.set_cons_zero,List.set_cons_succ,aU,aV]
      rfl
     refine fN (i:=12) (N:=some 98) (v:=?_) (a':=?_) #[true,true,true,true,true,true,true,true,true,true,true,true,true,false,false,false,false,false,false,false,false,false,false,false,false,false] rfl rfl aq (fun _ _ _ h=>h) (Or.inl ⟨by rfl,?_⟩) hHeld ?_ ?_
     rotate_left
     ·rintro w' ⟨s0,s1,s2,s3,s4,s5,s6,s7,s8,s9,Ez,EC,s12,EP,ER,ES,ET,EU,EW⟩
      go_simp
      with_reducible rfl
     rotate_left
     ·simp only [Act.put,List.setIfInBounds_toArray,List.set_cons_zero,List.set_cons_succ,aU,aV]
      rfl
     refine nL (i:=13) (N:=some 99) #[true,true,true,true,true,true,true,true,true,true,true,true,true,true,false,false,false,false,false,false,false,false,false,false,false,false] rfl rfl aq bB (fun K hK=>?_)
     refine lg Tryz.func106 aq rfl #[.agg #[.int .i64 m.f0,.bool m.f1.f0,.slice A2 m.f1.f1.length c2,.string m.f1.f2.f0,.string m.f1.f2.f1,.bool m.f1.f2.f2,.slice A6 m.f2.length c6,.slice A7 m.f3.length c7,.int .i64 m.f4],.agg #[.int .i64 x.f0,.bool x.f1.f0,.slice B2 x.f1.f1.length d2,.string x.f1.f2.f0,.string x.f1.f2.f1,.bool x.f1.f2.f2,.slice B6 x.f2.length d6,.slice B7 x.f3.length d7,.int .i64 x.f4],.int .i64 n] (by rfl) rfl rfl tT ?_
     with_reducible refine (HBO.out).mono ?_
     rintro e w5 ⟨rfl,tL⟩
     refine ⟨_,rfl,?_⟩
     have gu:=ah.mk (fy.out.below tL)
     have Iu:=ah.mk (az QV.out tL)
     clear tL
     refine hK.out _ _ ⟨gu.out.q0,gu.out.c0,gu.out.c1,gu.out.c2,gu.out.c3,gu.out.c4,gu.out.c5,gu.out.c6,gu.out.c7,gu.out.c8,gu.out.x0,gu.out.x1,gu.out.x2,gu.out.x3,gu.out.x4,gu.out.x5,gu.out.x6,gu.out.x7,gu.out.x8⟩ (fun hHeld=>?_)
     clear hK K
     refine jW (a':=?_) ?_ ?_
     rotate_left
     ·show Act.put _ (some 99) _=_
      simp only [Act.put,List.setIfInBounds_toArray,List.set_cons_zero,List.set_cons_succ,aU,aV]
      rfl
     refine aN (i:=14) (N:=some 100) (v:=?_) (a':=?_) #[true,true,true,true,true,true,true,true,true,true,true,true,true,true,true,false,false,false,false,false,false,false,false,false,false,false] rfl rfl aq (fun _ _ _ h=>h) (Or.inl ⟨by rfl,?_⟩) ?_ ?_
     rotate_left
     ·intro w'
      go_simp
      with_reducible rfl
     rotate_left
     ·simp only [Act.put,List.setIfInBounds_toArray,List.set_cons_zero,List.set_cons_succ,aU,aV]
      rfl
     refine aN (i:=15) (N:=some 101) (v:=?_) (a':=?_) #[true,true,true,true,true,true,true,true,true,true,true,true,true,true,true,true,false,false,false,false,false,false,false,false,false,false] rfl rfl aq (fun _ _ _ h=>h) (Or.inl ⟨by rfl,?_⟩) ?_ ?_
     rotate_left
     ·intro w'
      go_simp
      with_reducible rfl
     rotate_left
     ·simp only [Act.put,List.setIfInBounds_toArray,List.set_cons_zero,List.set_cons_succ,aU,aV]
      rfl
     refine aN (i:=16) (N:=some 102) (v:=?_) (a':=?_) #[true,true,true,true,true,true,true,true,true,true,true,true,true,true,true,true,true,false,false,false,false,false,false,false,false,false] rfl rfl aq (fun _ _ _ h=>h) (Or.inl ⟨by rfl,?_⟩) ?_ ?_
     rotate_left
     ·intro w'
      go_simp
      with_reducible rfl
     rotate_left
     ·simp only [Act.put,List.setIfInBounds_toArray,List.set_cons_zero,List.set_cons_succ,aU,aV]
      rfl
     refine aN (i:=17) (N:=some 103) (v:=undef) (a':=?_) #[true,true,true,true,true,true,true,true,true,true,true,true,true,true,true,true,true,true,false,false,false,false,false,false,false,false] rfl rfl aq (fun _ _ _ h=>h) (Or.inr ⟨by rfl,rfl⟩) ?_ ?_
     rotate_left
     ·simp only [Act.put,List.setIfInBounds_toArray,List.set_cons_zero,List.set_cons_succ,aU,aV]
      rfl
     refine aN (i:=18) (N:=some 104) (v:=undef) (a':=?_) #[true,true,true,true,true,true,true,true,true,true,true,true,true,true,true,true,true,true,true,false,false,false,false,false,false,false] rfl rfl aq (fun _ _ _ h=>h) (Or.inr ⟨by rfl,rfl⟩) ?_ ?_
     rotate_left
     ·simp only [Act.put,List.setIfInBounds_toArray,List.set_cons_zero,List.set_cons_succ,aU,aV]
      rfl
     refine aN (i:=19) (N:=some 105) (v:=undef) (a':=?_) #[true,true,true,true,true,true,true,true,true,true,true,true,true,true,true,true,true,true,true,true,false,false,false,false,false,false] rfl rfl aq (fun _ _ _ h=>h) (Or.inr ⟨by rfl,rfl⟩) ?_ ?_
     rotate_left
     ·simp only [Act.put,List.setIfInBounds_toArray,List.set_cons_zero,List.set_cons_succ,aU,aV]
      rfl
     refine aN (i:=20) (N:=some 106) (v:=undef) (a':=?_) #[true,true,true,true,true,true,true,true,true,true,true,true,true,true,true,true,true,true,true,true,true,false,false,false,false,false] rfl rfl aq (fun _ _ _ h=>h) (Or.inr ⟨by rfl,rfl⟩) ?_ ?_
     rotate_left
     ·simp only [Act.put,List.setIfInBounds_toArray,List.set_cons_zero,List.set_cons_succ,aU,aV]
      rfl
     refine aN (i:=21) (N:=some 107) (v:=undef) (a':=?_) #[true,true,true,true,true,true,true,true,true,true,true,true,true,true,true,true,true,true,true,true,true,true,false,false,false,false] rfl rfl aq (fun _ _ _ h=>h) (Or.inr ⟨by rfl,rfl⟩) ?_ ?_
     rotate_left
     ·simp only [Act.put,List.setIfInBounds_toArray,List.set_cons_zero,List.set_cons_succ,aU,aV]
      rfl
     refine aN (i:=22) (N:=some 108) (v:=undef) (a':=?_) #[true,true,true,true,true,true,true,true,true,true,true,true,true,true,true,true,true,true,true,true,true,true,true,false,false,false] rfl rfl aq (fun _ _ _ h=>h) (Or.inr ⟨by rfl,rfl⟩) ?_ ?_
     rotate_left
     ·simp only [Act.put,List.setIfInBounds_toArray,List.set_cons_zero,List.set_cons_succ,aU,aV]
      rfl
     refine aN (i:=23) (N:=some 109) (v:=undef) (a':=?_) #[true,true,true,true,true,true,true,true,true,true,true,true,true,true,true,true,true,true,true,true,true,true,true,true,false,false] rfl rfl aq (fun _ _ _ h=>h) (Or.inr ⟨by rfl,rfl⟩) ?_ ?_
     rotate_left
     ·simp only [Act.put,List.setIfInBounds_toArray,List.set_cons_zero,List.set_cons_succ,aU,aV]
      rfl
     refine aN (i:=24) (N:=some 110) (v:=undef) (a':=?_) #[true,true,true,true,true,true,true,true,true,true,true,true,true,true,true,true,true,true,true,true,true,true,true,true,true,false] rfl rfl aq (fun _ _ _ h=>h) (Or.inr ⟨by rfl,rfl⟩) ?_ ?_
     rotate_left
     ·simp only [Act.put,List.setIfInBounds_toArray,List.set_cons_zero,List.set_cons_succ,aU,aV]
      rfl
     refine aN (i:=25) (N:=some 111) (v:=?_) (a':=?_) #[true,true,true,true,true,true,true,true,true,true,true,true,true,true,true,true,true,true,true,true,true,true,true,true,true,true] rfl rfl aq (fun _ _ _ h=>h) (Or.inl ⟨by rfl,?_⟩) ?_ ?_
     rotate_left
     ·intro w'
      go_simp
      with_reducible rfl
     rotate_left
     ·simp only [Act.put,List.setIfInBounds_toArray,List.set_cons_zero,List.set_cons_succ,aU,aV]
      rfl
     refine nk aq ?_
     go_wp2
     go_ret
     exact ⟨rfl,gu.out.hq.bl,fun h=>by cases h⟩
    ·skip
     refine kK (n:=26) (S:=fun w'=>w'.cell? ⟨gq,0,none⟩=some (.int .i64 n)∧w'.cell? ⟨w.heap.size,4,none⟩=some (.int .i64 m.f0)∧w'.cell? ⟨w.heap.size,5,none⟩=some (.bool m.f1.f0)∧w'.cell? ⟨w.heap.size,6,none⟩=some (.slice A2 m.f1.f1.length c2)∧w'.cell? ⟨w.heap.size,7,none⟩=some (.string m.f1.f2.f0)∧w'.cell? ⟨w.heap.size,8,none⟩=some (.string m.f1.f2.f1)∧w'.cell? ⟨w.heap.size,9,none⟩=some (.bool m.f1.f2.f2)∧w'.cell? ⟨w.heap.size,10,none⟩=some (.slice A6 m.f2.length c6)∧w'.cell? ⟨w.heap.size,11,none⟩=some (.slice A7 m.f3.length c7)∧w'.cell? ⟨w.heap.size,12,none⟩=some (.int .i64 m.f4)∧w'.cell? ⟨gm,i * 9,none⟩=some (.int .i64 x.f0)∧w'.cell? ⟨gm,i * 9 + 1,none⟩=some (.bool x.f1.f0)∧w'.cell? ⟨gm,i * 9 + 2,none⟩=some (.slice B2 x.f1.f1.length d2)∧w'.cell? ⟨gm,i * 9 + 3,none⟩=some (.string x.f1.f2.f0)∧w'.cell? ⟨gm,i * 9 + 4,none⟩=some (.string x.f1.f2.f1)∧w'.cell? ⟨gm,i * 9 + 5,none⟩=some (.bool x.f1.f2.f2)∧w'.cell? ⟨gm,i * 9 + 6,none⟩=some (.slice B6 x.f2.length d6)∧w'.cell? ⟨gm,i * 9 + 7,none⟩=some (.slice B7 x.f3.length d7)∧w'.cell? ⟨gm,i * 9 + 8,none⟩=some (.int .i64 x.f4)) (ds:=[]) #[false,false,false,false,false,false,false,false,false,false,false,false,false,false,false,false,false,false,false,false,false,false,false,false,false,false] aq (by rfl) (by rfl) ⟨fy.out.q0,fy.out.c0,fy.out.c1,fy.out.c2,fy.out.c3,fy.out.c4,fy.out.c5,fy.out.c6,fy.out.c7,fy.out.c8,fy.out.x0,fy.out.x1,fy.out.x2,fy.out.x3,fy.out.x4,fy.out.x5,fy.out.x6,fy.out.x7,fy.out.x8⟩ (fun hHeld=>?_)
     refine aN (i:=0) (N:=some 86) (v:=?_) (a':=?_) #[true,false,false,false,false,false,false,false,false,false,false,false,false,false,false,false,false,false,false,false,false,false,false,false,false,false] rfl rfl aq (fun _ _ _ h=>h) (Or.inl ⟨by rfl,?_⟩) ?_ ?_
     rotate_left
     ·intro w'
      go_simp
      with_reducible rfl
     rotate_left
     ·simp only [Act.put,List.setIfInBounds_toArray,List.set_cons_zero,List.set_cons_succ,aU,aV]
      rfl
     refine aN (i:=1) (N:=some 87) (v:=?_) (a':=?_) #[true,true,false,false,false,false,false,false,false,false,false,false,false,false,false,false,false,false,false,false,false,false,false,false,false,false] rfl rfl aq (fun _ _ _ h=>h) (Or.inl ⟨by rfl,?_⟩) ?_ ?_
     rotate_left
     ·intro w'
      go_simp
      with_reducible rfl
     rotate_left
     ·simp only [Act.put,List.setIfInBounds_toArray,List.set_cons_zero,List.set_cons_succ,aU,aV]
      rfl
     refine aN (i:=2) (N:=some 88) (v:=?_) (a':=?_) #[true,true,true,false,false,false,false,false,false,false,false,false,false,false,false,false,false,false,false,false,false,false,false,false,false,false] rfl rfl aq (fun _ _ _ h=>h) (Or.inl ⟨by rfl,?_⟩) ?_ ?_
     rotate_left
     ·intro w'
      go_simp
      with_reducible rfl
     rotate_left
     ·simp only [Act.put,List.setIfInBounds_toArray,List.set_cons_zero,List.set_cons_succ,aU,aV]
      rfl
     refine aN (i:=3) (N:=some 89) (v:=?_) (a':=?_) #[true,true,true,true,false,false,false,false,false,false,false,false,false,false,false,false,false,false,false,false,false,false,false,false,false,false] rfl rfl aq (fun _ _ _ h=>h) (Or.inl ⟨by rfl,?_⟩) ?_ ?_
     rotate_left
     ·intro w'
      go_simp
      with_reducible rfl
     rotate_left
     ·simp only [Act.put,List.setIfInBounds_toArray,List.set_cons_zero,List.set_cons_succ,aU,aV]
      rfl
     refine aN (i:=4) (N:=some 90) (v:=?_) (a':=?_) #[true,true,true,true,true,false,false,false,false,false,false,false,false,false,false,false,false,false,false,false,false,false,false,false,false,false] rfl rfl aq (fun _ _ _ h=>h) (Or.inl ⟨by rfl,?_⟩) ?_ ?_
     rotate_left
     ·intro w'
      go_simp
      with_reducible rfl
     rotate_left
     ·simp only [Act.put,List.setIfInBounds_toArray,List.set_cons_zero,List.set_cons_succ,aU,aV]
      rfl
     refine aN (i:=6) (N:=some 92) (v:=?_) (a':=?_) #[true,true,true,true,true,false,true,false,false,false,false,false,false,false,false,false,false,false,false,false,false,false,false,false,false,false] rfl rfl aq (fun _ _ _ h=>h) (Or.inl ⟨by rfl,?_⟩) ?_ ?_
     rotate_left
     ·intro w'
      go_simp
      with_reducible rfl
     rotate_left
     ·simp only [Act.put,List.setIfInBounds_toArray,List.set_cons_zero,List.set_cons_succ,aU,aV]
      rfl
     refine aN (i:=7) (N:=some 93) (v:=?_) (a':=?_) #[true,true,true,true,true,false,true,true,false,false,false,false,false,false,false,false,false,false,false,false,false,false,false,false,false,false] rfl rfl aq (fun _ _ _ h=>h) (Or.inl ⟨by rfl,?_⟩) ?_ ?_
     rotate_left
     ·intro w'
      go_simp
      with_reducible rfl
     rotate_left
     ·simp only [Act.put,List.setIfInBounds_toArray,List.set_cons_zero,List.set_cons_succ,aU,aV]
      rfl
     refine aN (i:=9) (N:=some 95) (v:=?_) (a':=?_) #[true,true,true,true,true,false,true,true,false,true,false,false,false,false,false,false,false,false,false,false,false,false,false,false,false,false] rfl rfl aq (fun _ _ _ h=>h) (Or.inl ⟨by rfl,?_⟩) ?_ ?_
     rotate_left
     ·intro w'
      go_simp
      with_reducible rfl
     rotate_left
     ·simp only [Act.put,List.setIfInBounds_toArray,List.set_cons_zero,List.set_cons_succ,aU,aV]
      rfl
     refine aN (i:=10) (N:=some 96) (v:=?_) (a':=?_) #[true,true,true,true,true,false,true,true,false,true,true,false,false,false,false,false,false,false,false,false,false,false,false,false,false,false] rfl rfl aq (fun _ _ _ h=>h) (Or.inl ⟨by rfl,?_⟩) ?_ ?_
     rotate_left
     ·intro w'
      go_simp
      with_reducible rfl
     rotate_left
     ·simp only [Act.put,List.setIfInBounds_toArray,List.set_cons_zero,List.set_cons_succ,aU,aV]
      rfl
     refine aN (i:=11) (N:=some 97) (v:=?_) (a':=?_) #[true,true,true,true,true,false,true,true,false,true,true,true,false,false,false,false,false,false,false,false,false,false,false,false,false,false] rfl rfl aq (fun _ _ _ h=>h) (Or.inl ⟨by rfl,?_⟩) ?_ ?_
     rotate_left
     ·intro w'
      go_simp
      with_reducible rfl
     rotate_left
     ·simp only [Act.put,List.setIfInBounds_toArray,List.set_cons_zero,List.set_cons_succ,aU,aV]
      rfl
     refine fN (i:=5) (N:=some 91) (v:=?_) (a':=?_) #[true,true,true,true,true,true,true,true,false,true,true,true,false,false,false,false,false,false,false,false,false,false,false,false,false,false] rfl rfl aq (fun _ _ _ h=>h) (Or.inl ⟨by rfl,?_⟩) hHeld ?_ ?_
     rotate_left
     ·rintro w' ⟨s0,s1,s2,s3,s4,s5,s6,s7,s8,s9,Ez,EC,s12,EP,ER,ES,ET,EU,EW⟩
      go_simp
      with_reducible rfl
     rotate_left
     ·simp only [Act.put,List.setIfInBounds_toArray,List.set_cons_zero,List.set_cons_succ,aU,aV]
      rfl
     refine fN (i:=8) (N:=some 94) (v:=?_) (a':=?_) #[true,true,true,true,true,true,true,true,true,true,true,true,false,false,false,false,false,false,false,false,false,false,false,false,false,false] rfl rfl aq (fun _ _ _ h=>h) (Or.inl ⟨by rfl,?_⟩) hHeld ?_ ?_
     rotate_left
     ·rintro w' ⟨s0,s1,s2,s3,s4,s5,s6,s7,s8,s9,Ez,EC,s12,EP,ER,ES,ET,EU,EW⟩
      go_simp
      with_reducible rfl
     rotate_left
     ·simp only [Act.put,List.setIfInBounds_toArray,List.set_cons_zero,List.set_cons_succ,aU,aV]
      rfl
     refine fN (i:=12) (N:=some 98) (v:=?_) (a':=?_) #[true,true,true,true,true,true,true,true,true,true,true,true,true,false,false,false,false,false,false,false,false,false,false,false,false,false] rfl rfl aq (fun _ _ _ h=>h) (Or.inl ⟨by rfl,?_⟩) hHeld ?_ ?_
     rotate_left
     ·rintro w' ⟨s0,s1,s2,s3,s4,s5,s6,s7,s8,s9,Ez,EC,s12,EP,ER,ES,ET,EU,EW⟩
      go_simp
      with_reducible rfl
     rotate_left
     ·simp only [Act.put,List.setIfInBounds_toArray,List.set_cons_zero,List.set_cons_succ,aU,aV]
      rfl
     refine nL (i:=13) (N:=some 99) #[true,true,true,true,true,true,true,true,true,true,true,true,true,true,false,false,false,false,false,false,false,false,false,false,false,false] rfl rfl aq bB (fun K hK=>?_)
     refine lg Tryz.func106 aq rfl #[.agg #[.int .i64 m.f0,.bool m.f1.f0,.slice A2 m.f1.f1.length c2,.string m.f1.f2.f0,.string m.f1.f2.f1,.bool m.f1.f2.f2,.slice A6 m.f2.length c6,.slice A7 m.f3.length c7,.int .i64 m.f4],.agg #[.int .i64 x.f0,.bool x.f1.f0,.slice B2 x.f1.f1.length d2,.string x.f1.f2.f0,.string x.f1.f2.f1,.bool x.f1.f2.f2,.slice B6 x.f2.length d6,.slice B7 x.f3.length d7,.int .i64 x.f4],.int .i64 n] (by rfl) rfl rfl tT ?_
     with_reducible refine (HBO.out).mono ?_
     rintro e w5 ⟨rfl,tL⟩
     refine ⟨_,rfl,?_⟩
     have gu:=ah.mk (fy.out.below tL)
     have Iu:=ah.mk (az QV.out tL)
     clear tL
     refine hK.out _ _ ⟨gu.out.q0,gu.out.c0,gu.out.c1,gu.out.c2,gu.out.c3,gu.out.c4,gu.out.c5,gu.out.c6,gu.out.c7,gu.out.c8,gu.out.x0,gu.out.x1,gu.out.x2,gu.out.x3,gu.out.x4,gu.out.x5,gu.out.x6,gu.out.x7,gu.out.x8⟩ (fun hHeld=>?_)
     clear hK K
     refine jW (a':=?_) ?_ ?_
     rotate_left
     ·show Act.put _ (some 99) _=_
      simp only [Act.put,List.setIfInBounds_toArray,List.set_cons_zero,List.set_cons_succ,aU,aV]
      rfl
     refine aN (i:=14) (N:=some 100) (v:=?_) (a':=?_) #[true,true,true,true,true,true,true,true,true,true,true,true,true,true,true,false,false,false,false,false,false,false,false,false,false,false] rfl rfl aq (fun _ _ _ h=>h) (Or.inl ⟨by rfl,?_⟩) ?_ ?_
     rotate_left
     ·intro w'
      go_simp
      with_reducible rfl
     rotate_left
     ·simp only [Act.put,List.setIfInBounds_toArray,List.set_cons_zero,List.set_cons_succ,aU,aV]
      rfl
     refine aN (i:=15) (N:=some 101) (v:=?_) (a':=?_) #[true,true,true,true,true,true,true,true,true,true,true,true,true,true,true,true,false,false,false,false,false,false,false,false,false,false] rfl rfl aq (fun _ _ _ h=>h) (Or.inl ⟨by rfl,?_⟩) ?_ ?_
     rotate_left
     ·intro w'
      go_simp
      with_reducible rfl
     rotate_left
     ·simp only [Act.put,List.setIfInBounds_toArray,List.set_cons_zero,List.set_cons_succ,aU,aV]
      rfl
     refine aN (i:=16) (N:=some 102) (v:=?_) (a':=?_) #[true,true,true,true,true,true,true,true,true,true,true,true,true,true,true,true,true,false,false,false,false,false,false,false,false,false] rfl rfl aq (fun _ _ _ h=>h) (Or.inl ⟨by rfl,?_⟩) ?_ ?_
     rotate_left
     ·intro w'
      go_simp
      with_reducible rfl
     rotate_left
     ·simp only [Act.put,List.setIfInBounds_toArray,List.set_cons_zero,List.set_cons_succ,aU,aV]
      rfl
     refine aN (i:=17) (N:=some 103) (v:=?_) (a':=?_) #[true,true,true,true,true,true,true,true,true,true,true,true,true,true,true,true,true,true,false,false,false,false,false,false,false,false] rfl rfl aq (fun _ _ _ h=>h) (Or.inl ⟨by rfl,?_⟩) ?_ ?_
     rotate_left
     ·intro w'
      go_simp
      with_reducible rfl
     rotate_left
     ·simp only [Act.put,List.setIfInBounds_toArray,List.set_cons_zero,List.set_cons_succ,aU,aV]
      rfl
     refine aN (i:=18) (N:=some 104) (v:=?_) (a':=?_) #[true,true,true,true,true,true,true,true,true,true,true,true,true,true,true,true,true,true,true,false,false,false,false,false,false,false] rfl rfl aq (fun _ _ _ h=>h) (Or.inl ⟨by rfl,?_⟩) ?_ ?_
     rotate_left
     ·intro w'
      go_simp
      with_reducible rfl
     rotate_left
     ·simp only [Act.put,List.setIfInBounds_toArray,List.set_cons_zero,List.set_cons_succ,aU,aV]
      rfl
     refine aN (i:=19) (N:=some 105) (v:=?_) (a':=?_) #[true,true,true,true,true,true,true,true,true,true,true,true,true,true,true,true,true,true,true,true,false,false,false,false,false,false] rfl rfl aq (fun _ _ _ h=>h) (Or.inl ⟨by rfl,?_⟩) ?_ ?_
     rotate_left
     ·intro w'
      go_simp
      with_reducible rfl
     rotate_left
     ·simp only [Act.put,List.setIfInBounds_toArray,List.set_cons_zero,List.set_cons_succ,aU,aV]
      rfl
     refine aN (i:=20) (N:=some 106) (v:=undef) (a':=?_) #[true,true,true,true,true,true,true,true,true,true,true,true,true,true,true,true,true,true,true,true,true,false,false,false,false,false] rfl rfl aq (fun _ _ _ h=>h) (Or.inr ⟨by rfl,rfl⟩) ?_ ?_
     rotate_left
     ·simp only [Act.put,List.setIfInBounds_toArray,List.set_cons_zero,List.set_cons_succ,aU,aV]
      rfl
     refine aN (i:=21) (N:=some 107) (v:=undef) (a':=?_) #[true,true,true,true,true,true,true,true,true,true,true,true,true,true,true,true,true,true,true,true,true,true,false,false,false,false] rfl rfl aq (fun _ _ _ h=>h) (Or.inr ⟨by rfl,rfl⟩) ?_ ?_
     rotate_left
     ·simp only [Act.put,List.setIfInBounds_toArray,List.set_cons_zero,List.set_cons_succ,aU,aV]
      rfl
     refine aN (i:=22) (N:=some 108) (v:=undef) (a':=?_) #[true,true,true,true,true,true,true,true,true,true,true,true,true,true,true,true,true,true,true,true,true,true,true,false,false,false] rfl rfl aq (fun _ _ _ h=>h) (Or.inr ⟨by rfl,rfl⟩) ?_ ?_
     rotate_left
     ·simp only [Act.put,List.setIfInBounds_toArray,List.set_cons_zero,List.set_cons_succ,aU,aV]
      rfl
     refine aN (i:=23) (N:=some 109) (v:=undef) (a':=?_) #[true,true,true,true,true,true,true,true,true,true,true,true,true,true,true,true,true,true,true,true,true,true,true,true,false,false] rfl rfl aq (fun _ _ _ h=>h) (Or.inr ⟨by rfl,rfl⟩) ?_ ?_
     rotate_left
     ·simp only [Act.put,List.setIfInBounds_toArray,List.set_cons_zero,List.set_cons_succ,aU,aV]
      rfl
     refine aN (i:=24) (N:=some 110) (v:=?_) (a':=?_) #[true,true,true,true,true,true,true,true,true,true,true,true,true,true,true,true,true,true,true,true,true,true,true,true,true,false] rfl rfl aq (fun _ _ _ h=>h) (Or.inl ⟨by rfl,?_⟩) ?_ ?_
     rotate_left
     ·intro w'
      go_simp
      with_reducible rfl
     rotate_left
     ·simp only [Act.put,List.setIfInBounds_toArray,List.set_cons_zero,List.set_cons_succ,aU,aV]
      rfl
     refine aN (i:=25) (N:=some 111) (v:=?_) (a':=?_) #[true,true,true,true,true,true,true,true,true,true,true,true,true,true,true,true,true,true,true,true,true,true,true,true,true,true] rfl rfl aq (fun _ _ _ h=>h) (Or.inl ⟨by rfl,?_⟩) ?_ ?_
     rotate_left
     ·intro w'
      go_simp
      with_reducible rfl
     rotate_left
     ·simp only [Act.put,List.setIfInBounds_toArray,List.set_cons_zero,List.set_cons_succ,aU,aV]
      rfl
     refine nk aq ?_
     have p1:=gu.out.q1
     go_wp2_with (first|(go_at_call 107;refine (Ax gu.out.hq HDT.out HLN.out).mono ?_;rintro e w7 ⟨rfl,hs7,hb7,TI⟩;have OX:=fG gu.out.hq.hq TI (fun e=>HNE.out (Option.some.inj e).symm);have qU:=fG Iu.out TI (Kd.Lj gu.out.hq.hs Iu.out bB);have p7:w7.cell? ⟨gq,1,none⟩=some (.slice (some ⟨gm,0,none⟩) ms.length cv):=(af OX 1).trans rfl;have f7:=aa OX 1;have k0_ :=(af qU 0).trans rfl;have k1_ :=(af qU 1).trans rfl;have k2_ :=(af qU 2).trans rfl;have k3_ :=(af qU 3).trans rfl;have k4_ :=(af qU 4).trans rfl;have k5_ :=(af qU 5).trans rfl;have k6_ :=(af qU 6).trans rfl;have k7_ :=(af qU 7).trans rfl;have k8_ :=(af qU 8).trans rfl;have k9_ :=(af qU 9).trans rfl;have agF:=(af qU 10).trans rfl;have agG:=(af qU 11).trans rfl;have agH:=(af qU 12).trans rfl;have UK:=ah.mk (QW.put hb7 OX gu.out.hq.ge hs7);clear hs7 hb7 TI OX qU)|(go_at_call 103;refine (Fe.calls m A2 c2 A6 c6 A7 c7 gq n _ (ms.eraseIdx i) w0 _ UK.out (yl.out.below UK.out.bl).r2 yl.out.c2 (yl.out.below UK.out.bl).r6 yl.out.c6 (yl.out.below UK.out.bl).r7 yl.out.c7 HOW.out ?agI).mono ?_;(case agI=>rw [HHL.out];have:=HLN.out;have:=HDT.out;omega);rintro e w8 ⟨rfl,v8,hv8⟩;have HV8:=ah.mk hv8;clear hv8))
     obtain rfl:B=true:=UI.out.trans vO
     obtain rfl:N=wrap64 (m.f0 + 1):=HNV.out.trans wE
     obtain rfl:M=ms.eraseIdx i ++ [m]:=HMV.out.trans wE
     go_ret
     exact ⟨rfl,HV8.out.bl,fun _ =>⟨_,HV8.out⟩⟩
   ·skip
    have HN5:=ah.mk hn
    have HF5:=ah.mk hf
    clear hn hf
    cases b
    ·skip
     refine kK (n:=26) (S:=fun w'=>w'.cell? ⟨gq,0,none⟩=some (.int .i64 n)∧w'.cell? ⟨w.heap.size,4,none⟩=some (.int .i64 m.f0)∧w'.cell? ⟨w.heap.size,5,none⟩=some (.bool m.f1.f0)∧w'.cell? ⟨w.heap.size,6,none⟩=some (.slice A2 m.f1.f1.length c2)∧w'.cell? ⟨w.heap.size,7,none⟩=some (.string m.f1.f2.f0)∧w'.cell? ⟨w.heap.size,8,none⟩=some (.string m.f1.f2.f1)∧w'.cell? ⟨w.heap.size,9,none⟩=some (.bool m.f1.f2.f2)∧w'.cell? ⟨w.heap.size,10,none⟩=some (.slice A6 m.f2.length c6)∧w'.cell? ⟨w.heap.size,11,none⟩=some (.slice A7 m.f3.length c7)∧w'.cell? ⟨w.heap.size,12,none⟩=some (.int .i64 m.f4)∧w'.cell? ⟨gm,i * 9,none⟩=some (.int .i64 x.f0)∧w'.cell? ⟨gm,i * 9 + 1,none⟩=some (.bool x.f1.f0)∧w'.cell? ⟨gm,i * 9 + 2,none⟩=some (.slice B2 x.f1.f1.length d2)∧w'.cell? ⟨gm,i * 9 + 3,none⟩=some (.string x.f1.f2.f0)∧w'.cell? ⟨gm,i * 9 + 4,none⟩=some (.string x.f1.f2.f1)∧w'.cell? ⟨gm,i * 9 + 5,none⟩=some (.bool x.f1.f2.f2)∧w'.cell? ⟨gm,i * 9 + 6,none⟩=some (.slice B6 x.f2.length d6)∧w'.cell? ⟨gm,i * 9 + 7,none⟩=some (.slice B7 x.f3.length d7)∧w'.cell? ⟨gm,i * 9 + 8,none⟩=some (.int .i64 x.f4)) (ds:=[]) #[false,false,false,false,false,false,false,false,false,false,false,false,false,false,false,false,false,false,false,false,false,false,false,false,false,false] aq (by rfl) (by rfl) ⟨fy.out.q0,fy.out.c0,fy.out.c1,fy.out.c2,fy.out.c3,fy.out.c4,fy.out.c5,fy.out.c6,fy.out.c7,fy.out.c8,fy.out.x0,fy.out.x1,fy.out.x2,fy.out.x3,fy.out.x4,fy.out.x5,fy.out.x6,fy.out.x7,fy.out.x8⟩ (fun hHeld=>?_)
     refine aN (i:=0) (N:=some 86) (v:=?_) (a':=?_) #[true,false,false,false,false,false,false,false,false,false,false,false,false,false,false,false,false,false,false,false,false,false,false,false,false,false] rfl rfl aq (fun _ _ _ h=>h) (Or.inl ⟨by rfl,?_⟩) ?_ ?_
     rotate_left
     ·intro w'
      go_simp
      with_reducible rfl
     rotate_left
     ·simp only [Act.put,List.setIfInBounds_toArray,List.set_cons_zero,List.set_cons_succ,aU,aV]
      rfl
     refine aN (i:=1) (N:=some 87) (v:=?_) (a':=?_) #[true,true,false,false,false,false,false,false,false,false,false,false,false,false,false,false,false,false,false,false,false,false,false,false,false,false] rfl rfl aq (fun _ _ _ h=>h) (Or.inl ⟨by rfl,?_⟩) ?_ ?_
     rotate_left
     ·intro w'
      go_simp
      with_reducible rfl
     rotate_left
     ·simp only [Act.put,List.setIfInBounds_toArray,List.set_cons_zero,List.set_cons_succ,aU,aV]
      rfl
     refine aN (i:=2) (N:=some 88) (v:=?_) (a':=?_) #[true,true,true,false,false,false,false,false,false,false,false,false,false,false,false,false,false,false,false,false,false,false,false,false,false,false] rfl rfl aq (fun _ _ _ h=>h) (Or.inl ⟨by rfl,?_⟩) ?_ ?_
     rotate_left
     ·intro w'
      go_simp
      with_reducible rfl
     rotate_left
     ·simp only [Act.put,List.setIfInBounds_toArray,List.set_cons_zero,List.set_cons_succ,aU,aV]
      rfl
     refine aN (i:=3) (N:=some 89) (v:=?_) (a':=?_) #[true,true,true,true,false,false,false,false,false,false,false,false,false,false,false,false,false,false,false,false,false,false,false,false,false,false] rfl rfl aq (fun _ _ _ h=>h) (Or.inl ⟨by rfl,?_⟩) ?_ ?_
     rotate_left
     ·intro w'
      go_simp
      with_reducible rfl
     rotate_left
     ·simp only [Act.put,List.setIfInBounds_toArray,List.set_cons_zero,List.set_cons_succ,aU,aV]
      rfl
     refine aN (i:=4) (N:=some 90) (v:=?_) (a':=?_) #[true,true,true,true,true,false,false,false,false,false,false,false,false,false,false,false,false,false,false,false,false,false,false,false,false,false] rfl rfl aq (fun _ _ _ h=>h) (Or.inl ⟨by rfl,?_⟩) ?_ ?_
     rotate_left
     ·intro w'
      go_simp
      with_reducible rfl
     rotate_left
     ·simp only [Act.put,List.setIfInBounds_toArray,List.set_cons_zero,List.set_cons_succ,aU,aV]
      rfl
     refine aN (i:=6) (N:=some 92) (v:=?_) (a':=?_) #[true,true,true,true,true,false,true,false,false,false,false,false,false,false,false,false,false,false,false,false,false,false,false,false,false,false] rfl rfl aq (fun _ _ _ h=>h) (Or.inl ⟨by rfl,?_⟩) ?_ ?_
     rotate_left
     ·intro w'
      go_simp
      with_reducible rfl
     rotate_left
     ·simp only [Act.put,List.setIfInBounds_toArray,List.set_cons_zero,List.set_cons_succ,aU,aV]
      rfl
     refine aN (i:=7) (N:=some 93) (v:=?_) (a':=?_) #[true,true,true,true,true,false,true,true,false,false,false,false,false,false,false,false,false,false,false,false,false,false,false,false,false,false] rfl rfl aq (fun _ _ _ h=>h) (Or.inl ⟨by rfl,?_⟩) ?_ ?_
     rotate_left
     ·intro w'
      go_simp
      with_reducible rfl
     rotate_left
     ·simp only [Act.put,List.setIfInBounds_toArray,List.set_cons_zero,List.set_cons_succ,aU,aV]
      rfl
     refine aN (i:=9) (N:=some 95) (v:=?_) (a':=?_) #[true,true,true,true,true,false,true,true,false,true,false,false,false,false,false,false,false,false,false,false,false,false,false,false,false,false] rfl rfl aq (fun _ _ _ h=>h) (Or.inl ⟨by rfl,?_⟩) ?_ ?_
     rotate_left
     ·intro w'
      go_simp
      with_reducible rfl
     rotate_left
     ·simp only [Act.put,List.setIfInBounds_toArray,List.set_cons_zero,List.set_cons_succ,aU,aV]
      rfl
     refine aN (i:=10) (N:=some 96) (v:=?_) (a':=?_) #[true,true,true,true,true,false,true,true,false,true,true,false,false,false,false,false,false,false,false,false,false,false,false,false,false,false] rfl rfl aq (fun _ _ _ h=>h) (Or.inl ⟨by rfl,?_⟩) ?_ ?_
     rotate_left
     ·intro w'
      go_simp
      with_reducible rfl
     rotate_left
     ·simp only [Act.put,List.setIfInBounds_toArray,List.set_cons_zero,List.set_cons_succ,aU,aV]
      rfl
     refine aN (i:=11) (N:=some 97) (v:=?_) (a':=?_) #[true,true,true,true,true,false,true,true,false,true,true,true,false,false,false,false,false,false,false,false,false,false,false,false,false,false] rfl rfl aq (fun _ _ _ h=>h) (Or.inl ⟨by rfl,?_⟩) ?_ ?_
     rotate_left
     ·intro w'
      go_simp
      with_reducible rfl
     rotate_left
     ·simp only [Act.put,List.setIfInBounds_toArray,List.set_cons_zero,List.set_cons_succ,aU,aV]
      rfl
     refine fN (i:=5) (N:=some 91) (v:=?_) (a':=?_) #[true,true,true,true,true,true,true,true,false,true,true,true,false,false,false,false,false,false,false,false,false,false,false,false,false,false] rfl rfl aq (fun _ _ _ h=>h) (Or.inl ⟨by rfl,?_⟩) hHeld ?_ ?_
     rotate_left
     ·rintro w' ⟨s0,s1,s2,s3,s4,s5,s6,s7,s8,s9,Ez,EC,s12,EP,ER,ES,ET,EU,EW⟩
      go_simp
      with_reducible rfl
     rotate_left
     ·simp only [Act.put,List.setIfInBounds_toArray,List.set_cons_zero,List.set_cons_succ,aU,aV]
      rfl
     refine fN (i:=8) (N:=some 94) (v:=?_) (a':=?_) #[true,true,true,true,true,true,true,true,true,true,true,true,false,false,false,false,false,false,false,false,false,false,false,false,false,false] rfl rfl aq (fun _ _ _ h=>h) (Or.inl ⟨by rfl,?_⟩) hHeld ?_ ?_
     rotate_left
     ·rintro w' ⟨s0,s1,s2,s3,s4,s5,s6,s7,s8,s9,Ez,EC,s12,EP,ER,ES,ET,EU,EW⟩
      go_simp
      with_reducible rfl
     rotate_left
     ·simp only [Act.put,List.setIfInBounds_toArray,List.set_cons_zero,List.set_cons_succ,aU,aV]
      rfl
     refine fN (i:=12) (N:=some 98) (v:=?_) (a':=?_) #[true,true,true,true,true,true,true,true,true,true,true,true,true,false,false,false,false,false,false,false,false,false,false,false,false,false] rfl rfl aq (fun _ _ _ h=>h) (Or.inl ⟨by rfl,?_⟩) hHeld ?_ ?_
     rotate_left
     ·rintro w' ⟨s0,s1,s2,s3,s4,s5,s6,s7,s8,s9,Ez,EC,s12,EP,ER,ES,ET,EU,EW⟩
      go_simp
      with_reducible rfl
     rotate_left
     ·simp only [Act.put,List.setIfInBounds_toArray,List.set_cons_zero,List.set_cons_succ,aU,aV]
      rfl
     refine nL (i:=13) (N:=some 99) #[true,true,true,true,true,true,true,true,true,true,true,true,true,true,false,false,false,false,false,false,false,false,false,false,false,false] rfl rfl aq bB (fun K hK=>?_)
     refine lg Tryz.func106 aq rfl #[.agg #[.int .i64 m.f0,.bool m.f1.f0,.slice A2 m.f1.f1.length c2,.string m.f1.f2.f0,.string m.f1.f2.f1,.bool m.f1.f2.f2,.slice A6 m.f2.length c6,.slice A7 m.f3.length c7,.int .i64 m.f4],.agg #[.int .i64 x.f0,.bool x.f1.f0,.slice B2 x.f1.f1.length d2,.string x.f1.f2.f0,.string x.f1.f2.f1,.bool x.f1.f2.f2,.slice B6 x.f2.length d6,.slice B7 x.f3.length d7,.int .i64 x.f4],.int .i64 n] (by rfl) rfl rfl tT ?_
     with_reducible refine (HBO.out).mono ?_
     rintro e w5 ⟨rfl,tL⟩
     refine ⟨_,rfl,?_⟩
     have gu:=ah.mk (fy.out.below tL)
     have Iu:=ah.mk (az QV.out tL)
     clear tL
     refine hK.out _ _ ⟨gu.out.q0,gu.out.c0,gu.out.c1,gu.out.c2,gu.out.c3,gu.out.c4,gu.out.c5,gu.out.c6,gu.out.c7,gu.out.c8,gu.out.x0,gu.out.x1,gu.out.x2,gu.out.x3,gu.out.x4,gu.out.x5,gu.out.x6,gu.out.x7,gu.out.x8⟩ (fun hHeld=>?_)
     clear hK K
     refine jW (a':=?_) ?_ ?_
     rotate_left
     ·show Act.put _ (some 99) _=_
      simp only [Act.put,List.setIfInBounds_toArray,List.set_cons_zero,List.set_cons_succ,aU,aV]
      rfl
     refine aN (i:=14) (N:=some 100) (v:=?_) (a':=?_) #[true,true,true,true,true,true,true,true,true,true,true,true,true,true,true,false,false,false,false,false,false,false,false,false,false,false] rfl rfl aq (fun _ _ _ h=>h) (Or.inl ⟨by rfl,?_⟩) ?_ ?_
     rotate_left
     ·intro w'
      go_simp
      with_reducible rfl
     rotate_left
     ·simp only [Act.put,List.setIfInBounds_toArray,List.set_cons_zero,List.set_cons_succ,aU,aV]
      rfl
     refine aN (i:=15) (N:=some 101) (v:=?_) (a':=?_) #[true,true,true,true,true,true,true,true,true,true,true,true,true,true,true,true,false,false,false,false,false,false,false,false,false,false] rfl rfl aq (fun _ _ _ h=>h) (Or.inl ⟨by rfl,?_⟩) ?_ ?_
     rotate_left
     ·intro w'
      go_simp
      with_reducible rfl
     rotate_left
     ·simp only [Act.put,List.setIfInBounds_toArray,List.set_cons_zero,List.set_cons_succ,aU,aV]
      rfl
     refine aN (i:=16) (N:=some 102) (v:=?_) (a':=?_) #[true,true,true,true,true,true,true,true,true,true,true,true,true,true,true,true,true,false,false,false,false,false,false,false,false,false] rfl rfl aq (fun _ _ _ h=>h) (Or.inl ⟨by rfl,?_⟩) ?_ ?_
     rotate_left
     ·intro w'
      go_simp
      with_reducible rfl
     rotate_left
     ·simp only [Act.put,List.setIfInBounds_toArray,List.set_cons_zero,List.set_cons_succ,aU,aV]
      rfl
     refine aN (i:=17) (N:=some 103) (v:=?_) (a':=?_) #[true,true,true,true,true,true,true,true,true,true,true,true,true,true,true,true,true,true,false,false,false,false,false,false,false,false] rfl rfl aq (fun _ _ _ h=>h) (Or.inl ⟨by rfl,?_⟩) ?_ ?_
     rotate_left
     ·intro w'
      go_simp
      with_reducible rfl
     rotate_left
     ·simp only [Act.put,List.setIfInBounds_toArray,List.set_cons_zero,List.set_cons_succ,aU,aV]
      rfl
     refine aN (i:=18) (N:=some 104) (v:=?_) (a':=?_) #[true,true,true,true,true,true,true,true,true,true,true,true,true,true,true,true,true,true,true,false,false,false,false,false,false,false] rfl rfl aq (fun _ _ _ h=>h) (Or.inl ⟨by rfl,?_⟩) ?_ ?_
     rotate_left
     ·intro w'
      go_simp
      with_reducible rfl
     rotate_left
     ·simp only [Act.put,List.setIfInBounds_toArray,List.set_cons_zero,List.set_cons_succ,aU,aV]
      rfl
     refine aN (i:=19) (N:=some 105) (v:=?_) (a':=?_) #[true,true,true,true,true,true,true,true,true,true,true,true,true,true,true,true,true,true,true,true,false,false,false,false,false,false] rfl rfl aq (fun _ _ _ h=>h) (Or.inl ⟨by rfl,?_⟩) ?_ ?_
     rotate_left
     ·intro w'
      go_simp
      with_reducible rfl
     rotate_left
     ·simp only [Act.put,List.setIfInBounds_toArray,List.set_cons_zero,List.set_cons_succ,aU,aV]
      rfl
     refine aN (i:=20) (N:=some 106) (v:=?_) (a':=?_) #[true,true,true,true,true,true,true,true,true,true,true,true,true,true,true,true,true,true,true,true,true,false,false,false,false,false] rfl rfl aq (fun _ _ _ h=>h) (Or.inl ⟨by rfl,?_⟩) ?_ ?_
     rotate_left
     ·intro w'
      go_simp
      with_reducible rfl
     rotate_left
     ·simp only [Act.put,List.setIfInBounds_toArray,List.set_cons_zero,List.set_cons_succ,aU,aV]
      rfl
     refine fN (i:=21) (N:=some 107) (v:=?_) (a':=?_) #[true,true,true,true,true,true,true,true,true,true,true,true,true,true,true,true,true,true,true,true,true,true,false,false,false,false] rfl rfl aq (fun _ _ _ h=>h) (Or.inl ⟨by rfl,?_⟩) hHeld ?_ ?_
     rotate_left
     ·rintro w' ⟨s0,s1,s2,s3,s4,s5,s6,s7,s8,s9,Ez,EC,s12,EP,ER,ES,ET,EU,EW⟩
      go_simp
      with_reducible rfl
     rotate_left
     ·simp only [Act.put,List.setIfInBounds_toArray,List.set_cons_zero,List.set_cons_succ,aU,aV]
      rfl
     refine nL (i:=22) (N:=some 108) #[true,true,true,true,true,true,true,true,true,true,true,true,true,true,true,true,true,true,true,true,true,true,true,false,false,false] rfl rfl aq bB (fun K hK=>?_)
     refine lg Tryz.func63 aq rfl #[.agg #[.int .i64 m.f0,.bool m.f1.f0,.slice A2 m.f1.f1.length c2,.string m.f1.f2.f0,.string m.f1.f2.f1,.bool m.f1.f2.f2,.slice A6 m.f2.length c6,.slice A7 m.f3.length c7,.int .i64 m.f4]] (by rfl) rfl rfl tT ?_
     with_reducible refine (HNO.out _ ?bM).mono ?_
     (case bM=>exact gu.out.hq.bl)
     rintro e w6 ⟨rfl,JD⟩
     refine ⟨_,rfl,?_⟩
     have qo:=ah.mk (gu.out.below JD)
     have TJ:=ah.mk (az Iu.out JD)
     clear JD
     refine hK.out _ _ ⟨qo.out.q0,qo.out.c0,qo.out.c1,qo.out.c2,qo.out.c3,qo.out.c4,qo.out.c5,qo.out.c6,qo.out.c7,qo.out.c8,qo.out.x0,qo.out.x1,qo.out.x2,qo.out.x3,qo.out.x4,qo.out.x5,qo.out.x6,qo.out.x7,qo.out.x8⟩ (fun hHeld=>?_)
     clear hK K
     refine jW (a':=?_) ?_ ?_
     rotate_left
     ·show Act.put _ (some 108) _=_
      simp only [Act.put,List.setIfInBounds_toArray,List.set_cons_zero,List.set_cons_succ,aU,aV]
      rfl
     refine aN (i:=23) (N:=some 109) (v:=?_) (a':=?_) #[true,true,true,true,true,true,true,true,true,true,true,true,true,true,true,true,true,true,true,true,true,true,true,true,false,false] rfl rfl aq (fun _ _ _ h=>h) (Or.inl ⟨by rfl,?_⟩) ?_ ?_
     rotate_left
     ·intro w'
      go_simp
      with_reducible rfl
     rotate_left
     ·simp only [Act.put,List.setIfInBounds_toArray,List.set_cons_zero,List.set_cons_succ,aU,aV]
      rfl
     refine aN (i:=24) (N:=some 110) (v:=?_) (a':=?_) #[true,true,true,true,true,true,true,true,true,true,true,true,true,true,true,true,true,true,true,true,true,true,true,true,true,false] rfl rfl aq (fun _ _ _ h=>h) (Or.inl ⟨by rfl,?_⟩) ?_ ?_
     rotate_left
     ·intro w'
      go_simp
      with_reducible rfl
     rotate_left
     ·simp only [Act.put,List.setIfInBounds_toArray,List.set_cons_zero,List.set_cons_succ,aU,aV]
      rfl
     refine aN (i:=25) (N:=some 111) (v:=?_) (a':=?_) #[true,true,true,true,true,true,true,true,true,true,true,true,true,true,true,true,true,true,true,true,true,true,true,true,true,true] rfl rfl aq (fun _ _ _ h=>h) (Or.inl ⟨by rfl,?_⟩) ?_ ?_
     rotate_left
     ·intro w'
      go_simp
      with_reducible rfl
     rotate_left
     ·simp only [Act.put,List.setIfInBounds_toArray,List.set_cons_zero,List.set_cons_succ,aU,aV]
      rfl
     refine nk aq ?_
     cases z
     ·skip
      obtain rfl:B=false:=UI.out.trans vO
      go_wp2
      go_ret
      exact ⟨rfl,qo.out.hq.bl,fun h=>by cases h⟩
     ·skip
      have p1:=qo.out.q1
      go_wp2_with (first|(go_at_call 107;refine (Ax qo.out.hq HDT.out HLN.out).mono ?_;rintro e w7 ⟨rfl,hs7,hb7,TI⟩;have OX:=fG qo.out.hq.hq TI (fun e=>HNE.out (Option.some.inj e).symm);have qU:=fG TJ.out TI (Kd.Lj qo.out.hq.hs TJ.out bB);have p7:w7.cell? ⟨gq,1,none⟩=some (.slice (some ⟨gm,0,none⟩) ms.length cv):=(af OX 1).trans rfl;have f7:=aa OX 1;have k0_ :=(af qU 0).trans rfl;have k1_ :=(af qU 1).trans rfl;have k2_ :=(af qU 2).trans rfl;have k3_ :=(af qU 3).trans rfl;have k4_ :=(af qU 4).trans rfl;have k5_ :=(af qU 5).trans rfl;have k6_ :=(af qU 6).trans rfl;have k7_ :=(af qU 7).trans rfl;have k8_ :=(af qU 8).trans rfl;have k9_ :=(af qU 9).trans rfl;have agF:=(af qU 10).trans rfl;have agG:=(af qU 11).trans rfl;have agH:=(af qU 12).trans rfl;have UK:=ah.mk (QW.put hb7 OX qo.out.hq.ge hs7);clear hs7 hb7 TI OX qU))
      obtain rfl:B=true:=UI.out.trans vO
      obtain rfl:N=n:=HNV.out.trans wE
      obtain rfl:M=ms.eraseIdx i:=HMV.out.trans wE
      go_ret
      exact ⟨rfl,UK.out.bl,fun _ =>⟨_,UK.out⟩⟩
    ·skip
     obtain rfl:B=false:=UI.out.trans vO
     refine kK (n:=26) (S:=fun w'=>w'.cell? ⟨gq,0,none⟩=some (.int .i64 n)∧w'.cell? ⟨w.heap.size,4,none⟩=some (.int .i64 m.f0)∧w'.cell? ⟨w.heap.size,5,none⟩=some (.bool m.f1.f0)∧w'.cell? ⟨w.heap.size,6,none⟩=some (.slice A2 m.f1.f1.length c2)∧w'.cell? ⟨w.heap.size,7,none⟩=some (.string m.f1.f2.f0)∧w'.cell? ⟨w.heap.size,8,none⟩=some (.string m.f1.f2.f1)∧w'.cell? ⟨w.heap.size,9,none⟩=some (.bool m.f1.f2.f2)∧w'.cell? ⟨w.heap.size,10,none⟩=some (.slice A6 m.f2.length c6)∧w'.cell? ⟨w.heap.size,11,none⟩=some (.slice A7 m.f3.length c7)∧w'.cell? ⟨w.heap.size,12,none⟩=some (.int .i64 m.f4)∧w'.cell? ⟨gm,i * 9,none⟩=some (.int .i64 x.f0)∧w'.cell? ⟨gm,i * 9 + 1,none⟩=some (.bool x.f1.f0)∧w'.cell? ⟨gm,i * 9 + 2,none⟩=some (.slice B2 x.f1.f1.length d2)∧w'.cell? ⟨gm,i * 9 + 3,none⟩=some (.string x.f1.f2.f0)∧w'.cell? ⟨gm,i * 9 + 4,none⟩=some (.string x.f1.f2.f1)∧w'.cell? ⟨gm,i * 9 + 5,none⟩=some (.bool x.f1.f2.f2)∧w'.cell? ⟨gm,i * 9 + 6,none⟩=some (.slice B6 x.f2.length d6)∧w'.cell? ⟨gm,i * 9 + 7,none⟩=some (.slice B7 x.f3.length d7)∧w'.cell? ⟨gm,i * 9 + 8,none⟩=some (.int .i64 x.f4)) (ds:=[]) #[false,false,false,false,false,false,false,false,false,false,false,false,false,false,false,false,false,false,false,false,false,false,false,false,false,false] aq (by rfl) (by rfl) ⟨fy.out.q0,fy.out.c0,fy.out.c1,fy.out.c2,fy.out.c3,fy.out.c4,fy.out.c5,fy.out.c6,fy.out.c7,fy.out.c8,fy.out.x0,fy.out.x1,fy.out.x2,fy.out.x3,fy.out.x4,fy.out.x5,fy.out.x6,fy.out.x7,fy.out.x8⟩ (fun hHeld=>?_)
     refine aN (i:=0) (N:=some 86) (v:=?_) (a':=?_) #[true,false,false,false,false,false,false,false,false,false,false,false,false,false,false,false,false,false,false,false,false,false,false,false,false,false] rfl rfl aq (fun _ _ _ h=>h) (Or.inl ⟨by rfl,?_⟩) ?_ ?_
     rotate_left
     ·intro w'
      go_simp
      with_reducible rfl
     rotate_left
     ·simp only [Act.put,List.setIfInBounds_toArray,List.set_cons_zero,List.set_cons_succ,aU,aV]
      rfl
     refine aN (i:=1) (N:=some 87) (v:=?_) (a':=?_) #[true,true,false,false,false,false,false,false,false,false,false,false,false,false,false,false,false,false,false,false,false,false,false,false,false,false] rfl rfl aq (fun _ _ _ h=>h) (Or.inl ⟨by rfl,?_⟩) ?_ ?_
     rotate_left
     ·intro w'
      go_simp
      with_reducible rfl
     rotate_left
     ·simp only [Act.put,List.setIfInBounds_toArray,List.set_cons_zero,List.set_cons_succ,aU,aV]
      rfl
     refine aN (i:=2) (N:=some 88) (v:=?_) (a':=?_) #[true,true,true,false,false,false,false,false,false,false,false,false,false,false,false,false,false,false,false,false,false,false,false,false,false,false] rfl rfl aq (fun _ _ _ h=>h) (Or.inl ⟨by rfl,?_⟩) ?_ ?_
     rotate_left
     ·intro w'
      go_simp
      with_reducible rfl
     rotate_left
     ·simp only [Act.put,List.setIfInBounds_toArray,List.set_cons_zero,List.set_cons_succ,aU,aV]
      rfl
     refine aN (i:=3) (N:=some 89) (v:=?_) (a':=?_) #[true,true,true,true,false,false,false,false,false,false,false,false,false,false,false,false,false,false,false,false,false,false,false,false,false,false] rfl rfl aq (fun _ _ _ h=>h) (Or.inl ⟨by rfl,?_⟩) ?_ ?_
     rotate_left
     ·intro w'
      go_simp
      with_reducible rfl
     rotate_left
     ·simp only [Act.put,List.setIfInBounds_toArray,List.set_cons_zero,List.set_cons_succ,aU,aV]
      rfl
     refine aN (i:=4) (N:=some 90) (v:=?_) (a':=?_) #[true,true,true,true,true,false,false,false,false,false,false,false,false,false,false,false,false,false,false,false,false,false,false,false,false,false] rfl rfl aq (fun _ _ _ h=>h) (Or.inl ⟨by rfl,?_⟩) ?_ ?_
     rotate_left
     ·intro w'
      go_simp
      with_reducible rfl
     rotate_left
     ·simp only [Act.put,List.setIfInBounds_toArray,List.set_cons_zero,List.set_cons_succ,aU,aV]
      rfl
     refine aN (i:=6) (N:=some 92) (v:=?_) (a':=?_) #[true,true,true,true,true,false,true,false,false,false,false,false,false,false,false,false,false,false,false,false,false,false,false,false,false,false] rfl rfl aq (fun _ _ _ h=>h) (Or.inl ⟨by rfl,?_⟩) ?_ ?_
     rotate_left
     ·intro w'
      go_simp
      with_reducible rfl
     rotate_left
     ·simp only [Act.put,List.setIfInBounds_toArray,List.set_cons_zero,List.set_cons_succ,aU,aV]
      rfl
     refine aN (i:=7) (N:=some 93) (v:=?_) (a':=?_) #[true,true,true,true,true,false,true,true,false,false,false,false,false,false,false,false,false,false,false,false,false,false,false,false,false,false] rfl rfl aq (fun _ _ _ h=>h) (Or.inl ⟨by rfl,?_⟩) ?_ ?_
     rotate_left
     ·intro w'
      go_simp
      with_reducible rfl
     rotate_left
     ·simp only [Act.put,List.setIfInBounds_toArray,List.set_cons_zero,List.set_cons_succ,aU,aV]
      rfl
     refine aN (i:=9) (N:=some 95) (v:=?_) (a':=?_) #[true,true,true,true,true,false,true,true,false,true,false,false,false,false,false,false,false,false,false,false,false,false,false,false,false,false] rfl rfl aq (fun _ _ _ h=>h) (Or.inl ⟨by rfl,?_⟩) ?_ ?_
     rotate_left
     ·intro w'
      go_simp
      with_reducible rfl
     rotate_left
     ·simp only [Act.put,List.setIfInBounds_toArray,List.set_cons_zero,List.set_cons_succ,aU,aV]
      rfl
     refine aN (i:=10) (N:=some 96) (v:=?_) (a':=?_) #[true,true,true,true,true,false,true,true,false,true,true,false,false,false,false,false,false,false,false,false,false,false,false,false,false,false] rfl rfl aq (fun _ _ _ h=>h) (Or.inl ⟨by rfl,?_⟩) ?_ ?_
     rotate_left
     ·intro w'
      go_simp
      with_reducible rfl
     rotate_left
     ·simp only [Act.put,List.setIfInBounds_toArray,List.set_cons_zero,List.set_cons_succ,aU,aV]
      rfl
     refine aN (i:=11) (N:=some 97) (v:=?_) (a':=?_) #[true,true,true,true,true,false,true,true,false,true,true,true,false,false,false,false,false,false,false,false,false,false,false,false,false,false] rfl rfl aq (fun _ _ _ h=>h) (Or.inl ⟨by rfl,?_⟩) ?_ ?_
     rotate_left
     ·intro w'
      go_simp
      with_reducible rfl
     rotate_left
     ·simp only [Act.put,List.setIfInBounds_toArray,List.set_cons_zero,List.set_cons_succ,aU,aV]
      rfl
     refine fN (i:=5) (N:=some 91) (v:=?_) (a':=?_) #[true,true,true,true,true,true,true,true,false,true,true,true,false,false,false,false,false,false,false,false,false,false,false,false,false,false] rfl rfl aq (fun _ _ _ h=>h) (Or.inl ⟨by rfl,?_⟩) hHeld ?_ ?_
     rotate_left
     ·rintro w' ⟨s0,s1,s2,s3,s4,s5,s6,s7,s8,s9,Ez,EC,s12,EP,ER,ES,ET,EU,EW⟩
      go_simp
      with_reducible rfl
     rotate_left
     ·simp only [Act.put,List.setIfInBounds_toArray,List.set_cons_zero,List.set_cons_succ,aU,aV]
      rfl
     refine fN (i:=8) (N:=some 94) (v:=?_) (a':=?_) #[true,true,true,true,true,true,true,true,true,true,true,true,false,false,false,false,false,false,false,false,false,false,false,false,false,false] rfl rfl aq (fun _ _ _ h=>h) (Or.inl ⟨by rfl,?_⟩) hHeld ?_ ?_
     rotate_left
     ·rintro w' ⟨s0,s1,s2,s3,s4,s5,s6,s7,s8,s9,Ez,EC,s12,EP,ER,ES,ET,EU,EW⟩
      go_simp
      with_reducible rfl
     rotate_left
     ·simp only [Act.put,List.setIfInBounds_toArray,List.set_cons_zero,List.set_cons_succ,aU,aV]
      rfl
     refine fN (i:=12) (N:=some 98) (v:=?_) (a':=?_) #[true,true,true,true,true,true,true,true,true,true,true,true,true,false,false,false,false,false,false,false,false,false,false,false,false,false] rfl rfl aq (fun _ _ _ h=>h) (Or.inl ⟨by rfl,?_⟩) hHeld ?_ ?_
     rotate_left
     ·rintro w' ⟨s0,s1,s2,s3,s4,s5,s6,s7,s8,s9,Ez,EC,s12,EP,ER,ES,ET,EU,EW⟩
      go_simp
      with_reducible rfl
     rotate_left
     ·simp only [Act.put,List.setIfInBounds_toArray,List.set_cons_zero,List.set_cons_succ,aU,aV]
      rfl
     refine nL (i:=13) (N:=some 99) #[true,true,true,true,true,true,true,true,true,true,true,true,true,true,false,false,false,false,false,false,false,false,false,false,false,false] rfl rfl aq bB (fun K hK=>?_)
     refine lg Tryz.func106 aq rfl #[.agg #[.int .i64 m.f0,.bool m.f1.f0,.slice A2 m.f1.f1.length c2,.string m.f1.f2.f0,.string m.f1.f2.f1,.bool m.f1.f2.f2,.slice A6 m.f2.length c6,.slice A7 m.f3.length c7,.int .i64 m.f4],.agg #[.int .i64 x.f0,.bool x.f1.f0,.slice B2 x.f1.f1.length d2,.string x.f1.f2.f0,.string x.f1.f2.f1,.bool x.f1.f2.f2,.slice B6 x.f2.length d6,.slice B7 x.f3.length d7,.int .i64 x.f4],.int .i64 n] (by rfl) rfl rfl tT ?_
     with_reducible refine (HBO.out).mono ?_
     rintro e w5 ⟨rfl,tL⟩
     refine ⟨_,rfl,?_⟩
     have gu:=ah.mk (fy.out.below tL)
     have Iu:=ah.mk (az QV.out tL)
     clear tL
     refine hK.out _ _ ⟨gu.out.q0,gu.out.c0,gu.out.c1,gu.out.c2,gu.out.c3,gu.out.c4,gu.out.c5,gu.out.c6,gu.out.c7,gu.out.c8,gu.out.x0,gu.out.x1,gu.out.x2,gu.out.x3,gu.out.x4,gu.out.x5,gu.out.x6,gu.out.x7,gu.out.x8⟩ (fun hHeld=>?_)
     clear hK K
     refine jW (a':=?_) ?_ ?_
     rotate_left
     ·show Act.put _ (some 99) _=_
      simp only [Act.put,List.setIfInBounds_toArray,List.set_cons_zero,List.set_cons_succ,aU,aV]
      rfl
     refine aN (i:=14) (N:=some 100) (v:=?_) (a':=?_) #[true,true,true,true,true,true,true,true,true,true,true,true,true,true,true,false,false,false,false,false,false,false,false,false,false,false] rfl rfl aq (fun _ _ _ h=>h) (Or.inl ⟨by rfl,?_⟩) ?_ ?_
     rotate_left
     ·intro w'
      go_simp
      with_reducible rfl
     rotate_left
     ·simp only [Act.put,List.setIfInBounds_toArray,List.set_cons_zero,List.set_cons_succ,aU,aV]
      rfl
     refine aN (i:=15) (N:=some 101) (v:=?_) (a':=?_) #[true,true,true,true,true,true,true,true,true,true,true,true,true,true,true,true,false,false,false,false,false,false,false,false,false,false] rfl rfl aq (fun _ _ _ h=>h) (Or.inl ⟨by rfl,?_⟩) ?_ ?_
     rotate_left
     ·intro w'
      go_simp
      with_reducible rfl
     rotate_left
     ·simp only [Act.put,List.setIfInBounds_toArray,List.set_cons_zero,List.set_cons_succ,aU,aV]
      rfl
     refine aN (i:=16) (N:=some 102) (v:=?_) (a':=?_) #[true,true,true,true,true,true,true,true,true,true,true,true,true,true,true,true,true,false,false,false,false,false,false,false,false,false] rfl rfl aq (fun _ _ _ h=>h) (Or.inl ⟨by rfl,?_⟩) ?_ ?_
     rotate_left
     ·intro w'
      go_simp
      with_reducible rfl
     rotate_left
     ·simp only [Act.put,List.setIfInBounds_toArray,List.set_cons_zero,List.set_cons_succ,aU,aV]
      rfl
     refine aN (i:=17) (N:=some 103) (v:=undef) (a':=?_) #[true,true,true,true,true,true,true,true,true,true,true,true,true,true,true,true,true,true,false,false,false,false,false,false,false,false] rfl rfl aq (fun _ _ _ h=>h) (Or.inr ⟨by rfl,rfl⟩) ?_ ?_
     rotate_left
     ·simp only [Act.put,List.setIfInBounds_toArray,List.set_cons_zero,List.set_cons_succ,aU,aV]
      rfl
     refine aN (i:=18) (N:=some 104) (v:=undef) (a':=?_) #[true,true,true,true,true,true,true,true,true,true,true,true,true,true,true,true,true,true,true,false,false,false,false,false,false,false] rfl rfl aq (fun _ _ _ h=>h) (Or.inr ⟨by rfl,rfl⟩) ?_ ?_
     rotate_left
     ·simp only [Act.put,List.setIfInBounds_toArray,List.set_cons_zero,List.set_cons_succ,aU,aV]
      rfl
     refine aN (i:=19) (N:=some 105) (v:=undef) (a':=?_) #[true,true,true,true,true,true,true,true,true,true,true,true,true,true,true,true,true,true,true,true,false,false,false,false,false,false] rfl rfl aq (fun _ _ _ h=>h) (Or.inr ⟨by rfl,rfl⟩) ?_ ?_
     rotate_left
     ·simp only [Act.put,List.setIfInBounds_toArray,List.set_cons_zero,List.set_cons_succ,aU,aV]
      rfl
     refine aN (i:=20) (N:=some 106) (v:=undef) (a':=?_) #[true,true,true,true,true,true,true,true,true,true,true,true,true,true,true,true,true,true,true,true,true,false,false,false,false,false] rfl rfl aq (fun _ _ _ h=>h) (Or.inr ⟨by rfl,rfl⟩) ?_ ?_
     rotate_left
     ·simp only [Act.put,List.setIfInBounds_toArray,List.set_cons_zero,List.set_cons_succ,aU,aV]
      rfl
     refine aN (i:=21) (N:=some 107) (v:=undef) (a':=?_) #[true,true,true,true,true,true,true,true,true,true,true,true,true,true,true,true,true,true,true,true,true,true,false,false,false,false] rfl rfl aq (fun _ _ _ h=>h) (Or.inr ⟨by rfl,rfl⟩) ?_ ?_
     rotate_left
     ·simp only [Act.put,List.setIfInBounds_toArray,List.set_cons_zero,List.set_cons_succ,aU,aV]
      rfl
     refine aN (i:=22) (N:=some 108) (v:=undef) (a':=?_) #[true,true,true,true,true,true,true,true,true,true,true,true,true,true,true,true,true,true,true,true,true,true,true,false,false,false] rfl rfl aq (fun _ _ _ h=>h) (Or.inr ⟨by rfl,rfl⟩) ?_ ?_
     rotate_left
     ·simp only [Act.put,List.setIfInBounds_toArray,List.set_cons_zero,List.set_cons_succ,aU,aV]
      rfl
     refine aN (i:=23) (N:=some 109) (v:=undef) (a':=?_) #[true,true,true,true,true,true,true,true,true,true,true,true,true,true,true,true,true,true,true,true,true,true,true,true,false,false] rfl rfl aq (fun _ _ _ h=>h) (Or.inr ⟨by rfl,rfl⟩) ?_ ?_
     rotate_left
     ·simp only [Act.put,List.setIfInBounds_toArray,List.set_cons_zero,List.set_cons_succ,aU,aV]
      rfl
     refine aN (i:=24) (N:=some 110) (v:=undef) (a':=?_) #[true,true,true,true,true,true,true,true,true,true,true,true,true,true,true,true,true,true,true,true,true,true,true,true,true,false] rfl rfl aq (fun _ _ _ h=>h) (Or.inr ⟨by rfl,rfl⟩) ?_ ?_
     rotate_left
     ·simp only [Act.put,List.setIfInBounds_toArray,List.set_cons_zero,List.set_cons_succ,aU,aV]
      rfl
     refine aN (i:=25) (N:=some 111) (v:=?_) (a':=?_) #[true,true,true,true,true,true,true,true,true,true,true,true,true,true,true,true,true,true,true,true,true,true,true,true,true,true] rfl rfl aq (fun _ _ _ h=>h) (Or.inl ⟨by rfl,?_⟩) ?_ ?_
     rotate_left
     ·intro w'
      go_simp
      with_reducible rfl
     rotate_left
     ·simp only [Act.put,List.setIfInBounds_toArray,List.set_cons_zero,List.set_cons_succ,aU,aV]
      rfl
     refine nk aq ?_
     go_wp2
     go_ret
     exact ⟨rfl,gu.out.hq.bl,fun h=>by cases h⟩
 ·have hf:f0=false:=by first|assumption|(cases f0<;>first|rfl|exact absurd rfl mz)
  cases d0
  ·skip
   obtain rfl:B=false:=UI.out.trans (by simp [Close])
   clear hf
   refine kK (n:=26) (S:=fun w'=>w'.cell? ⟨gq,0,none⟩=some (.int .i64 n)∧w'.cell? ⟨w.heap.size,4,none⟩=some (.int .i64 m.f0)∧w'.cell? ⟨w.heap.size,5,none⟩=some (.bool m.f1.f0)∧w'.cell? ⟨w.heap.size,6,none⟩=some (.slice A2 m.f1.f1.length c2)∧w'.cell? ⟨w.heap.size,7,none⟩=some (.string m.f1.f2.f0)∧w'.cell? ⟨w.heap.size,8,none⟩=some (.string m.f1.f2.f1)∧w'.cell? ⟨w.heap.size,9,none⟩=some (.bool m.f1.f2.f2)∧w'.cell? ⟨w.heap.size,10,none⟩=some (.slice A6 m.f2.length c6)∧w'.cell? ⟨w.heap.size,11,none⟩=some (.slice A7 m.f3.length c7)∧w'.cell? ⟨w.heap.size,12,none⟩=some (.int .i64 m.f4)∧w'.cell? ⟨gm,i * 9,none⟩=some (.int .i64 x.f0)∧w'.cell? ⟨gm,i * 9 + 1,none⟩=some (.bool x.f1.f0)∧w'.cell? ⟨gm,i * 9 + 2,none⟩=some (.slice B2 x.f1.f1.length d2)∧w'.cell? ⟨gm,i * 9 + 3,none⟩=some (.string x.f1.f2.f0)∧w'.cell? ⟨gm,i * 9 + 4,none⟩=some (.string x.f1.f2.f1)∧w'.cell? ⟨gm,i * 9 + 5,none⟩=some (.bool x.f1.f2.f2)∧w'.cell? ⟨gm,i * 9 + 6,none⟩=some (.slice B6 x.f2.length d6)∧w'.cell? ⟨gm,i * 9 + 7,none⟩=some (.slice B7 x.f3.length d7)∧w'.cell? ⟨gm,i * 9 + 8,none⟩=some (.int .i64 x.f4)) (ds:=[]) #[false,false,false,false,false,false,false,false,false,false,false,false,false,false,false,false,false,false,false,false,false,false,false,false,false,false] aq (by rfl) (by rfl) ⟨fy.out.q0,fy.out.c0,fy.out.c1,fy.out.c2,fy.out.c3,fy.out.c4,fy.out.c5,fy.out.c6,fy.out.c7,fy.out.c8,fy.out.x0,fy.out.x1,fy.out.x2,fy.out.x3,fy.out.x4,fy.out.x5,fy.out.x6,fy.out.x7,fy.out.x8⟩ (fun hHeld=>?_)
   refine aN (i:=0) (N:=some 86) (v:=?_) (a':=?_) #[true,false,false,false,false,false,false,false,false,false,false,false,false,false,false,false,false,false,false,false,false,false,false,false,false,false] rfl rfl aq (fun _ _ _ h=>h) (Or.inl ⟨by rfl,?_⟩) ?_ ?_
   rotate_left
   ·intro w'
    go_simp
    with_reducible rfl
   rotate_left
   ·simp only [Act.put,List.setIfInBounds_toArray,List.set_cons_zero,List.set_cons_succ,aU,aV]
    rfl
   refine aN (i:=1) (N:=some 87) (v:=?_) (a':=?_) #[true,true,false,false,false,false,false,false,false,false,false,false,false,false,false,false,false,false,false,false,false,false,false,false,false,false] rfl rfl aq (fun _ _ _ h=>h) (Or.inl ⟨by rfl,?_⟩) ?_ ?_
   rotate_left
   ·intro w'
    go_simp
    with_reducible rfl
   rotate_left
   ·simp only [Act.put,List.setIfInBounds_toArray,List.set_cons_zero,List.set_cons_succ,aU,aV]
    rfl
   refine aN (i:=2) (N:=some 88) (v:=?_) (a':=?_) #[true,true,true,false,false,false,false,false,false,false,false,false,false,false,false,false,false,false,false,false,false,false,false,false,false,false] rfl rfl aq (fun _ _ _ h=>h) (Or.inl ⟨by rfl,?_⟩) ?_ ?_
   rotate_left
   ·intro w'
    go_simp
    with_reducible rfl
   rotate_left
   ·simp only [Act.put,List.setIfInBounds_toArray,List.set_cons_zero,List.set_cons_succ,aU,aV]
    rfl
   refine aN (i:=3) (N:=some 89) (v:=undef) (a':=?_) #[true,true,true,true,false,false,false,false,false,false,false,false,false,false,false,false,false,false,false,false,false,false,false,false,false,false] rfl rfl aq (fun _ _ _ h=>h) (Or.inr ⟨by rfl,rfl⟩) ?_ ?_
   rotate_left
   ·simp only [Act.put,List.setIfInBounds_toArray,List.set_cons_zero,List.set_cons_succ,aU,aV]
    rfl
   refine aN (i:=4) (N:=some 90) (v:=undef) (a':=?_) #[true,true,true,true,true,false,false,false,false,false,false,false,false,false,false,false,false,false,false,false,false,false,false,false,false,false] rfl rfl aq (fun _ _ _ h=>h) (Or.inr ⟨by rfl,rfl⟩) ?_ ?_
   rotate_left
   ·simp only [Act.put,List.setIfInBounds_toArray,List.set_cons_zero,List.set_cons_succ,aU,aV]
    rfl
   refine aN (i:=5) (N:=some 91) (v:=undef) (a':=?_) #[true,true,true,true,true,true,false,false,false,false,false,false,false,false,false,false,false,false,false,false,false,false,false,false,false,false] rfl rfl aq (fun _ _ _ h=>h) (Or.inr ⟨by rfl,rfl⟩) ?_ ?_
   rotate_left
   ·simp only [Act.put,List.setIfInBounds_toArray,List.set_cons_zero,List.set_cons_succ,aU,aV]
    rfl
   refine aN (i:=6) (N:=some 92) (v:=undef) (a':=?_) #[true,true,true,true,true,true,true,false,false,false,false,false,false,false,false,false,false,false,false,false,false,false,false,false,false,false] rfl rfl aq (fun _ _ _ h=>h) (Or.inr ⟨by rfl,rfl⟩) ?_ ?_
   rotate_left
   ·simp only [Act.put,List.setIfInBounds_toArray,List.set_cons_zero,List.set_cons_succ,aU,aV]
    rfl
   refine aN (i:=7) (N:=some 93) (v:=undef) (a':=?_) #[true,true,true,true,true,true,true,true,false,false,false,false,false,false,false,false,false,false,false,false,false,false,false,false,false,false] rfl rfl aq (fun _ _ _ h=>h) (Or.inr ⟨by rfl,rfl⟩) ?_ ?_
   rotate_left
   ·simp only [Act.put,List.setIfInBounds_toArray,List.set_cons_zero,List.set_cons_succ,aU,aV]
    rfl
   refine aN (i:=8) (N:=some 94) (v:=undef) (a':=?_) #[true,true,true,true,true,true,true,true,true,false,false,false,false,false,false,false,false,false,false,false,false,false,false,false,false,false] rfl rfl aq (fun _ _ _ h=>h) (Or.inr ⟨by rfl,rfl⟩) ?_ ?_
   rotate_left
   ·simp only [Act.put,List.setIfInBounds_toArray,List.set_cons_zero,List.set_cons_succ,aU,aV]
    rfl
   refine aN (i:=9) (N:=some 95) (v:=undef) (a':=?_) #[true,true,true,true,true,true,true,true,true,true,false,false,false,false,false,false,false,false,false,false,false,false,false,false,false,false] rfl rfl aq (fun _ _ _ h=>h) (Or.inr ⟨by rfl,rfl⟩) ?_ ?_
   rotate_left
   ·simp only [Act.put,List.setIfInBounds_toArray,List.set_cons_zero,List.set_cons_succ,aU,aV]
    rfl
   refine aN (i:=10) (N:=some 96) (v:=undef) (a':=?_) #[true,true,true,true,true,true,true,true,true,true,true,false,false,false,false,false,false,false,false,false,false,false,false,false,false,false] rfl rfl aq (fun _ _ _ h=>h) (Or.inr ⟨by rfl,rfl⟩) ?_ ?_
   rotate_left
   ·simp only [Act.put,List.setIfInBounds_toArray,List.set_cons_zero,List.set_cons_succ,aU,aV]
    rfl
   refine aN (i:=11) (N:=some 97) (v:=undef) (a':=?_) #[true,true,true,true,true,true,true,true,true,true,true,true,false,false,false,false,false,false,false,false,false,false,false,false,false,false] rfl rfl aq (fun _ _ _ h=>h) (Or.inr ⟨by rfl,rfl⟩) ?_ ?_
   rotate_left
   ·simp only [Act.put,List.setIfInBounds_toArray,List.set_cons_zero,List.set_cons_succ,aU,aV]
    rfl
   refine aN (i:=12) (N:=some 98) (v:=undef) (a':=?_) #[true,true,true,true,true,true,true,true,true,true,true,true,true,false,false,false,false,false,false,false,false,false,false,false,false,false] rfl rfl aq (fun _ _ _ h=>h) (Or.inr ⟨by rfl,rfl⟩) ?_ ?_
   rotate_left
   ·simp only [Act.put,List.setIfInBounds_toArray,List.set_cons_zero,List.set_cons_succ,aU,aV]
    rfl
   refine aN (i:=13) (N:=some 99) (v:=undef) (a':=?_) #[true,true,true,true,true,true,true,true,true,true,true,true,true,true,false,false,false,false,false,false,false,false,false,false,false,false] rfl rfl aq (fun _ _ _ h=>h) (Or.inr ⟨by rfl,rfl⟩) ?_ ?_
   rotate_left
   ·simp only [Act.put,List.setIfInBounds_toArray,List.set_cons_zero,List.set_cons_succ,aU,aV]
    rfl
   refine aN (i:=14) (N:=some 100) (v:=undef) (a':=?_) #[true,true,true,true,true,true,true,true,true,true,true,true,true,true,true,false,false,false,false,false,false,false,false,false,false,false] rfl rfl aq (fun _ _ _ h=>h) (Or.inr ⟨by rfl,rfl⟩) ?_ ?_
   rotate_left
   ·simp only [Act.put,List.setIfInBounds_toArray,List.set_cons_zero,List.set_cons_succ,aU,aV]
    rfl
   refine aN (i:=15) (N:=some 101) (v:=?_) (a':=?_) #[true,true,true,true,true,true,true,true,true,true,true,true,true,true,true,true,false,false,false,false,false,false,false,false,false,false] rfl rfl aq (fun _ _ _ h=>h) (Or.inl ⟨by rfl,?_⟩) ?_ ?_
   rotate_left
   ·intro w'
    go_simp
    with_reducible rfl
   rotate_left
   ·simp only [Act.put,List.setIfInBounds_toArray,List.set_cons_zero,List.set_cons_succ,aU,aV]
    rfl
   refine aN (i:=16) (N:=some 102) (v:=?_) (a':=?_) #[true,true,true,true,true,true,true,true,true,true,true,true,true,true,true,true,true,false,false,false,false,false,false,false,false,false] rfl rfl aq (fun _ _ _ h=>h) (Or.inl ⟨by rfl,?_⟩) ?_ ?_
   rotate_left
   ·intro w'
    go_simp
    with_reducible rfl
   rotate_left
   ·simp only [Act.put,List.setIfInBounds_toArray,List.set_cons_zero,List.set_cons_succ,aU,aV]
    rfl
   refine aN (i:=17) (N:=some 103) (v:=undef) (a':=?_) #[true,true,true,true,true,true,true,true,true,true,true,true,true,true,true,true,true,true,false,false,false,false,false,false,false,false] rfl rfl aq (fun _ _ _ h=>h) (Or.inr ⟨by rfl,rfl⟩) ?_ ?_
   rotate_left
   ·simp only [Act.put,List.setIfInBounds_toArray,List.set_cons_zero,List.set_cons_succ,aU,aV]
    rfl
   refine aN (i:=18) (N:=some 104) (v:=undef) (a':=?_) #[true,true,true,true,true,true,true,true,true,true,true,true,true,true,true,true,true,true,true,false,false,false,false,false,false,false] rfl rfl aq (fun _ _ _ h=>h) (Or.inr ⟨by rfl,rfl⟩) ?_ ?_
   rotate_left
   ·simp only [Act.put,List.setIfInBounds_toArray,List.set_cons_zero,List.set_cons_succ,aU,aV]
    rfl
   refine aN (i:=19) (N:=some 105) (v:=undef) (a':=?_) #[true,true,true,true,true,true,true,true,true,true,true,true,true,true,true,true,true,true,true,true,false,false,false,false,false,false] rfl rfl aq (fun _ _ _ h=>h) (Or.inr ⟨by rfl,rfl⟩) ?_ ?_
   rotate_left
   ·simp only [Act.put,List.setIfInBounds_toArray,List.set_cons_zero,List.set_cons_succ,aU,aV]
    rfl
   refine aN (i:=20) (N:=some 106) (v:=undef) (a':=?_) #[true,true,true,true,true,true,true,true,true,true,true,true,true,true,true,true,true,true,true,true,true,false,false,false,false,false] rfl rfl aq (fun _ _ _ h=>h) (Or.inr ⟨by rfl,rfl⟩) ?_ ?_
   rotate_left
   ·simp only [Act.put,List.setIfInBounds_toArray,List.set_cons_zero,List.set_cons_succ,aU,aV]
    rfl
   refine aN (i:=21) (N:=some 107) (v:=undef) (a':=?_) #[true,true,true,true,true,true,true,true,true,true,true,true,true,true,true,true,true,true,true,true,true,true,false,false,false,false] rfl rfl aq (fun _ _ _ h=>h) (Or.inr ⟨by rfl,rfl⟩) ?_ ?_
   rotate_left
   ·simp only [Act.put,List.setIfInBounds_toArray,List.set_cons_zero,List.set_cons_succ,aU,aV]
    rfl
   refine aN (i:=22) (N:=some 108) (v:=undef) (a':=?_) #[true,true,true,true,true,true,true,true,true,true,true,true,true,true,true,true,true,true,true,true,true,true,true,false,false,false] rfl rfl aq (fun _ _ _ h=>h) (Or.inr ⟨by rfl,rfl⟩) ?_ ?_
   rotate_left
   ·simp only [Act.put,List.setIfInBounds_toArray,List.set_cons_zero,List.set_cons_succ,aU,aV]
    rfl
   refine aN (i:=23) (N:=some 109) (v:=undef) (a':=?_) #[true,true,true,true,true,true,true,true,true,true,true,true,true,true,true,true,true,true,true,true,true,true,true,true,false,false] rfl rfl aq (fun _ _ _ h=>h) (Or.inr ⟨by rfl,rfl⟩) ?_ ?_
   rotate_left
   ·simp only [Act.put,List.setIfInBounds_toArray,List.set_cons_zero,List.set_cons_succ,aU,aV]
    rfl
   refine aN (i:=24) (N:=some 110) (v:=undef) (a':=?_) #[true,true,true,true,true,true,true,true,true,true,true,true,true,true,true,true,true,true,true,true,true,true,true,true,true,false] rfl rfl aq (fun _ _ _ h=>h) (Or.inr ⟨by rfl,rfl⟩) ?_ ?_
   rotate_left
   ·simp only [Act.put,List.setIfInBounds_toArray,List.set_cons_zero,List.set_cons_succ,aU,aV]
    rfl
   refine aN (i:=25) (N:=some 111) (v:=?_) (a':=?_) #[true,true,true,true,true,true,true,true,true,true,true,true,true,true,true,true,true,true,true,true,true,true,true,true,true,true] rfl rfl aq (fun _ _ _ h=>h) (Or.inl ⟨by rfl,?_⟩) ?_ ?_
   rotate_left
   ·intro w'
    go_simp
    with_reducible rfl
   rotate_left
   ·simp only [Act.put,List.setIfInBounds_toArray,List.set_cons_zero,List.set_cons_succ,aU,aV]
    rfl
   refine nk aq ?_
   go_wp2
   go_ret
   exact ⟨rfl,fy.out.hq.bl,fun h=>by cases h⟩
  ·skip
   have HBO:=ah.mk (dB.calls m.f0 m.f1.f0 A2 c2 m.f1.f1 m.f1.f2.f0 m.f1.f2.f1 m.f1.f2.f2 A6 c6 m.f2 A7 c7 m.f3 m.f4 x.f0 x.f1.f0 B2 d2 x.f1.f1 x.f1.f2.f0 x.f1.f2.f1 x.f1.f2.f2 B6 d6 x.f2 B7 d7 x.f3 x.f4 n _ w4.drew (yl.out.below fy.out.hq.bl).r2 yl.out.c2 (yl.out.below fy.out.hq.bl).r6 yl.out.c6 (yl.out.below fy.out.hq.bl).r7 yl.out.c7 HT2.out TH.out.2.1 HT6.out UJ.out.2.1 HT7.out HS7.out.2.1 (HBF.out rfl))
   have HN5:=ah.mk hf
   have HF5:=ah.mk hf
   clear hf
   cases b
   ·skip
    refine kK (n:=26) (S:=fun w'=>w'.cell? ⟨gq,0,none⟩=some (.int .i64 n)∧w'.cell? ⟨w.heap.size,4,none⟩=some (.int .i64 m.f0)∧w'.cell? ⟨w.heap.size,5,none⟩=some (.bool m.f1.f0)∧w'.cell? ⟨w.heap.size,6,none⟩=some (.slice A2 m.f1.f1.length c2)∧w'.cell? ⟨w.heap.size,7,none⟩=some (.string m.f1.f2.f0)∧w'.cell? ⟨w.heap.size,8,none⟩=some (.string m.f1.f2.f1)∧w'.cell? ⟨w.heap.size,9,none⟩=some (.bool m.f1.f2.f2)∧w'.cell? ⟨w.heap.size,10,none⟩=some (.slice A6 m.f2.length c6)∧w'.cell? ⟨w.heap.size,11,none⟩=some (.slice A7 m.f3.length c7)∧w'.cell? ⟨w.heap.size,12,none⟩=some (.int .i64 m.f4)∧w'.cell? ⟨gm,i * 9,none⟩=some (.int .i64 x.f0)∧w'.cell? ⟨gm,i * 9 + 1,none⟩=some (.bool x.f1.f0)∧w'.cell? ⟨gm,i * 9 + 2,none⟩=some (.slice B2 x.f1.f1.length d2)∧w'.cell? ⟨gm,i * 9 + 3,none⟩=some (.string x.f1.f2.f0)∧w'.cell? ⟨gm,i * 9 + 4,none⟩=some (.string x.f1.f2.f1)∧w'.cell? ⟨gm,i * 9 + 5,none⟩=some (.bool x.f1.f2.f2)∧w'.cell? ⟨gm,i * 9 + 6,none⟩=some (.slice B6 x.f2.length d6)∧w'.cell? ⟨gm,i * 9 + 7,none⟩=some (.slice B7 x.f3.length d7)∧w'.cell? ⟨gm,i * 9 + 8,none⟩=some (.int .i64 x.f4)) (ds:=[]) #[false,false,false,false,false,false,false,false,false,false,false,false,false,false,false,false,false,false,false,false,false,false,false,false,false,false] aq (by rfl) (by rfl) ⟨fy.out.q0,fy.out.c0,fy.out.c1,fy.out.c2,fy.out.c3,fy.out.c4,fy.out.c5,fy.out.c6,fy.out.c7,fy.out.c8,fy.out.x0,fy.out.x1,fy.out.x2,fy.out.x3,fy.out.x4,fy.out.x5,fy.out.x6,fy.out.x7,fy.out.x8⟩ (fun hHeld=>?_)
    refine aN (i:=0) (N:=some 86) (v:=?_) (a':=?_) #[true,false,false,false,false,false,false,false,false,false,false,false,false,false,false,false,false,false,false,false,false,false,false,false,false,false] rfl rfl aq (fun _ _ _ h=>h) (Or.inl ⟨by rfl,?_⟩) ?_ ?_
    rotate_left
    ·intro w'
     go_simp
     with_reducible rfl
    rotate_left
    ·simp only [Act.put,List.setIfInBounds_toArray,List.set_cons_zero,List.set_cons_succ,aU,aV]
     rfl
    refine aN (i:=1) (N:=some 87) (v:=?_) (a':=?_) #[true,true,false,false,false,false,false,false,false,false,false,false,false,false,false,false,false,false,false,false,false,false,false,false,false,false] rfl rfl aq (fun _ _ _ h=>h) (Or.inl ⟨by rfl,?_⟩) ?_ ?_
    rotate_left
    ·intro w'
     go_simp
     with_reducible rfl
    rotate_left
    ·simp only [Act.put,List.setIfInBounds_toArray,List.set_cons_zero,List.set_cons_succ,aU,aV]
     rfl
    refine aN (i:=2) (N:=some 88) (v:=?_) (a':=?_) #[true,true,true,false,false,false,false,false,false,false,false,false,false,false,false,false,false,false,false,false,false,false,false,false,false,false] rfl rfl aq (fun _ _ _ h=>h) (Or.inl ⟨by rfl,?_⟩) ?_ ?_
    rotate_left
    ·intro w'
     go_simp
     with_reducible rfl
    rotate_left
    ·simp only [Act.put,List.setIfInBounds_toArray,List.set_cons_zero,List.set_cons_succ,aU,aV]
     rfl
    refine aN (i:=3) (N:=some 89) (v:=?_) (a':=?_) #[true,true,true,true,false,false,false,false,false,false,false,false,false,false,false,false,false,false,false,false,false,false,false,false,false,false] rfl rfl aq (fun _ _ _ h=>h) (Or.inl ⟨by rfl,?_⟩) ?_ ?_
    rotate_left
    ·intro w'
     go_simp
     with_reducible rfl
    rotate_left
    ·simp only [Act.put,List.setIfInBounds_toArray,List.set_cons_zero,List.set_cons_succ,aU,aV]
     rfl
    refine aN (i:=4) (N:=some 90) (v:=?_) (a':=?_) #[true,true,true,true,true,false,false,false,false,false,false,false,false,false,false,false,false,false,false,false,false,false,false,false,false,false] rfl rfl aq (fun _ _ _ h=>h) (Or.inl ⟨by rfl,?_⟩) ?_ ?_
    rotate_left
    ·intro w'
     go_simp
     with_reducible rfl
    rotate_left
    ·simp only [Act.put,List.setIfInBounds_toArray,List.set_cons_zero,List.set_cons_succ,aU,aV]
     rfl
    refine aN (i:=6) (N:=some 92) (v:=?_) (a':=?_) #[true,true,true,true,true,false,true,false,false,false,false,false,false,false,false,false,false,false,false,false,false,false,false,false,false,false] rfl rfl aq (fun _ _ _ h=>h) (Or.inl ⟨by rfl,?_⟩) ?_ ?_
    rotate_left
    ·intro w'
     go_simp
     with_reducible rfl
    rotate_left
    ·simp only [Act.put,List.setIfInBounds_toArray,List.set_cons_zero,List.set_cons_succ,aU,aV]
     rfl
    refine aN (i:=7) (N:=some 93) (v:=?_) (a':=?_) #[true,true,true,true,true,false,true,true,false,false,false,false,false,false,false,false,false,false,false,false,false,false,false,false,false,false] rfl rfl aq (fun _ _ _ h=>h) (Or.inl ⟨by rfl,?_⟩) ?_ ?_
    rotate_left
    ·intro w'
     go_simp
     with_reducible rfl
    rotate_left
    ·simp only [Act.put,List.setIfInBounds_toArray,List.set_cons_zero,List.set_cons_succ,aU,aV]
     rfl
    refine aN (i:=9) (N:=some 95) (v:=?_) (a':=?_) #[true,true,true,true,true,false,true,true,false,true,false,false,false,false,false,false,false,false,false,false,false,false,false,false,false,false] rfl rfl aq (fun _ _ _ h=>h) (Or.inl ⟨by rfl,?_⟩) ?_ ?_
    rotate_left
    ·intro w'
     go_simp
     with_reducible rfl
    rotate_left
    ·simp only [Act.put,List.setIfInBounds_toArray,List.set_cons_zero,List.set_cons_succ,aU,aV]
     rfl
    refine aN (i:=10) (N:=some 96) (v:=?_) (a':=?_) #[true,true,true,true,true,false,true,true,false,true,true,false,false,false,false,false,false,false,false,false,false,false,false,false,false,false] rfl rfl aq (fun _ _ _ h=>h) (Or.inl ⟨by rfl,?_⟩) ?_ ?_
    rotate_left
    ·intro w'
     go_simp
     with_reducible rfl
    rotate_left
    ·simp only [Act.put,List.setIfInBounds_toArray,List.set_cons_zero,List.set_cons_succ,aU,aV]
     rfl
    refine aN (i:=11) (N:=some 97) (v:=?_) (a':=?_) #[true,true,true,true,true,false,true,true,false,true,true,true,false,false,false,false,false,false,false,false,false,false,false,false,false,false] rfl rfl aq (fun _ _ _ h=>h) (Or.inl ⟨by rfl,?_⟩) ?_ ?_
    rotate_left
    ·intro w'
     go_simp
     with_reducible rfl
    rotate_left
    ·simp only [Act.put,List.setIfInBounds_toArray,List.set_cons_zero,List.set_cons_succ,aU,aV]
     rfl
    refine fN (i:=5) (N:=some 91) (v:=?_) (a':=?_) #[true,true,true,true,true,true,true,true,false,true,true,true,false,false,false,false,false,false,false,false,false,false,false,false,false,false] rfl rfl aq (fun _ _ _ h=>h) (Or.inl ⟨by rfl,?_⟩) hHeld ?_ ?_
    rotate_left
    ·rintro w' ⟨s0,s1,s2,s3,s4,s5,s6,s7,s8,s9,Ez,EC,s12,EP,ER,ES,ET,EU,EW⟩
     go_simp
     with_reducible rfl
    rotate_left
    ·simp only [Act.put,List.setIfInBounds_toArray,List.set_cons_zero,List.set_cons_succ,aU,aV]
     rfl
    refine fN (i:=8) (N:=some 94) (v:=?_) (a':=?_) #[true,true,true,true,true,true,true,true,true,true,true,true,false,false,false,false,false,false,false,false,false,false,false,false,false,false] rfl rfl aq (fun _ _ _ h=>h) (Or.inl ⟨by rfl,?_⟩) hHeld ?_ ?_
    rotate_left
    ·rintro w' ⟨s0,s1,s2,s3,s4,s5,s6,s7,s8,s9,Ez,EC,s12,EP,ER,ES,ET,EU,EW⟩
     go_simp
     with_reducible rfl
    rotate_left
    ·simp only [Act.put,List.setIfInBounds_toArray,List.set_cons_zero,List.set_cons_succ,aU,aV]
     rfl
    refine fN (i:=12) (N:=some 98) (v:=?_) (a':=?_) #[true,true,true,true,true,true,true,true,true,true,true,true,true,false,false,false,false,false,false,false,false,false,false,false,false,false] rfl rfl aq (fun _ _ _ h=>h) (Or.inl ⟨by rfl,?_⟩) hHeld ?_ ?_
    rotate_left
    ·rintro w' ⟨s0,s1,s2,s3,s4,s5,s6,s7,s8,s9,Ez,EC,s12,EP,ER,ES,ET,EU,EW⟩
     go_simp
     with_reducible rfl
    rotate_left
    ·simp only [Act.put,List.setIfInBounds_toArray,List.set_cons_zero,List.set_cons_succ,aU,aV]
     rfl
    refine nL (i:=13) (N:=some 99) #[true,true,true,true,true,true,true,true,true,true,true,true,true,true,false,false,false,false,false,false,false,false,false,false,false,false] rfl rfl aq bB (fun K hK=>?_)
    refine lg Tryz.func106 aq rfl #[.agg #[.int .i64 m.f0,.bool m.f1.f0,.slice A2 m.f1.f1.length c2,.string m.f1.f2.f0,.string m.f1.f2.f1,.bool m.f1.f2.f2,.slice A6 m.f2.length c6,.slice A7 m.f3.length c7,.int .i64 m.f4],.agg #[.int .i64 x.f0,.bool x.f1.f0,.slice B2 x.f1.f1.length d2,.string x.f1.f2.f0,.string x.f1.f2.f1,.bool x.f1.f2.f2,.slice B6 x.f2.length d6,.slice B7 x.f3.length d7,.int .i64 x.f4],.int .i64 n] (by rfl) rfl rfl tT ?_
    with_reducible refine (HBO.out).mono ?_
    rintro e w5 ⟨rfl,tL⟩
    refine ⟨_,rfl,?_⟩
    have gu:=ah.mk (fy.out.below tL)
    have Iu:=ah.mk (az QV.out tL)
    clear tL
    refine hK.out _ _ ⟨gu.out.q0,gu.out.c0,gu.out.c1,gu.out.c2,gu.out.c3,gu.out.c4,gu.out.c5,gu.out.c6,gu.out.c7,gu.out.c8,gu.out.x0,gu.out.x1,gu.out.x2,gu.out.x3,gu.out.x4,gu.out.x5,gu.out.x6,gu.out.x7,gu.out.x8⟩ (fun hHeld=>?_)
    clear hK K
    refine jW (a':=?_) ?_ ?_
    rotate_left
    ·show Act.put _ (some 99) _=_
     simp only [Act.put,List.setIfInBounds_toArray,List.set_cons_zero,List.set_cons_succ,aU,aV]
     rfl
    refine aN (i:=14) (N:=some 100) (v:=?_) (a':=?_) #[true,true,true,true,true,true,true,true,true,true,true,true,true,true,true,false,false,false,false,false,false,false,false,false,false,false] rfl rfl aq (fun _ _ _ h=>h) (Or.inl ⟨by rfl,?_⟩) ?_ ?_
    rotate_left
    ·intro w'
     go_simp
     with_reducible rfl
    rotate_left
    ·simp only [Act.put,List.setIfInBounds_toArray,List.set_cons_zero,List.set_cons_succ,aU,aV]
     rfl
    refine aN (i:=15) (N:=some 101) (v:=?_) (a':=?_) #[true,true,true,true,true,true,true,true,true,true,true,true,true,true,true,true,false,false,false,false,false,false,false,false,false,false] rfl rfl aq (fun _ _ _ h=>h) (Or.inl ⟨by rfl,?_⟩) ?_ ?_
    rotate_left
    ·intro w'
     go_simp
     with_reducible rfl
    rotate_left
    ·simp only [Act.put,List.setIfInBounds_toArray,List.set_cons_zero,List.set_cons_succ,aU,aV]
     rfl
    refine aN (i:=16) (N:=some 102) (v:=?_) (a':=?_) #[true,true,true,true,true,true,true,true,true,true,true,true,true,true,true,true,true,false,false,false,false,false,false,false,false,false] rfl rfl aq (fun _ _ _ h=>h) (Or.inl ⟨by rfl,?_⟩) ?_ ?_
    rotate_left
    ·intro w'
     go_simp
     with_reducible rfl
    rotate_left
    ·simp only [Act.put,List.setIfInBounds_toArray,List.set_cons_zero,List.set_cons_succ,aU,aV]
     rfl
    refine aN (i:=17) (N:=some 103) (v:=?_) (a':=?_) #[true,true,true,true,true,true,true,true,true,true,true,true,true,true,true,true,true,true,false,false,false,false,false,false,false,false] rfl rfl aq (fun _ _ _ h=>h) (Or.inl ⟨by rfl,?_⟩) ?_ ?_
    rotate_left
    ·intro w'
     go_simp
     with_reducible rfl
    rotate_left
    ·simp only [Act.put,List.setIfInBounds_toArray,List.set_cons_zero,List.set_cons_succ,aU,aV]
     rfl
    refine aN (i:=18) (N:=some 104) (v:=?_) (a':=?_) #[true,true,true,true,true,true,true,true,true,true,true,true,true,true,true,true,true,true,true,false,false,false,false,false,false,false] rfl rfl aq (fun _ _ _ h=>h) (Or.inl ⟨by rfl,?_⟩) ?_ ?_
    rotate_left
    ·intro w'
     go_simp
     with_reducible rfl
    rotate_left
    ·simp only [Act.put,List.setIfInBounds_toArray,List.set_cons_zero,List.set_cons_succ,aU,aV]
     rfl
    refine aN (i:=19) (N:=some 105) (v:=?_) (a':=?_) #[true,true,true,true,true,true,true,true,true,true,true,true,true,true,true,true,true,true,true,true,false,false,false,false,false,false] rfl rfl aq (fun _ _ _ h=>h) (Or.inl ⟨by rfl,?_⟩) ?_ ?_
    rotate_left
    ·intro w'
     go_simp
     with_reducible rfl
    rotate_left
    ·simp only [Act.put,List.setIfInBounds_toArray,List.set_cons_zero,List.set_cons_succ,aU,aV]
     rfl
    refine aN (i:=20) (N:=some 106) (v:=?_) (a':=?_) #[true,true,true,true,true,true,true,true,true,true,true,true,true,true,true,true,true,true,true,true,true,false,false,false,false,false] rfl rfl aq (fun _ _ _ h=>h) (Or.inl ⟨by rfl,?_⟩) ?_ ?_
    rotate_left
    ·intro w'
     go_simp
     with_reducible rfl
    rotate_left
    ·simp only [Act.put,List.setIfInBounds_toArray,List.set_cons_zero,List.set_cons_succ,aU,aV]
     rfl
    refine fN (i:=21) (N:=some 107) (v:=?_) (a':=?_) #[true,true,true,true,true,true,true,true,true,true,true,true,true,true,true,true,true,true,true,true,true,true,false,false,false,false] rfl rfl aq (fun _ _ _ h=>h) (Or.inl ⟨by rfl,?_⟩) hHeld ?_ ?_
    rotate_left
    ·rintro w' ⟨s0,s1,s2,s3,s4,s5,s6,s7,s8,s9,Ez,EC,s12,EP,ER,ES,ET,EU,EW⟩
     go_simp
     with_reducible rfl
    rotate_left
    ·simp only [Act.put,List.setIfInBounds_toArray,List.set_cons_zero,List.set_cons_succ,aU,aV]
     rfl
    refine nL (i:=22) (N:=some 108) #[true,true,true,true,true,true,true,true,true,true,true,true,true,true,true,true,true,true,true,true,true,true,true,false,false,false] rfl rfl aq bB (fun K hK=>?_)
    refine lg Tryz.func63 aq rfl #[.agg #[.int .i64 m.f0,.bool m.f1.f0,.slice A2 m.f1.f1.length c2,.string m.f1.f2.f0,.string m.f1.f2.f1,.bool m.f1.f2.f2,.slice A6 m.f2.length c6,.slice A7 m.f3.length c7,.int .i64 m.f4]] (by rfl) rfl rfl tT ?_
    with_reducible refine (HNO.out _ ?bM).mono ?_
    (case bM=>exact gu.out.hq.bl)
    rintro e w6 ⟨rfl,JD⟩
    refine ⟨_,rfl,?_⟩
    have qo:=ah.mk (gu.out.below JD)
    have TJ:=ah.mk (az Iu.out JD)
    clear JD
    refine hK.out _ _ ⟨qo.out.q0,qo.out.c0,qo.out.c1,qo.out.c2,qo.out.c3,qo.out.c4,qo.out.c5,qo.out.c6,qo.out.c7,qo.out.c8,qo.out.x0,qo.out.x1,qo.out.x2,qo.out.x3,qo.out.x4,qo.out.x5,qo.out.x6,qo.out.x7,qo.out.x8⟩ (fun hHeld=>?_)
    clear hK K
    refine jW (a':=?_) ?_ ?_
    rotate_left
    ·show Act.put _ (some 108) _=_
     simp only [Act.put,List.setIfInBounds_toArray,List.set_cons_zero,List.set_cons_succ,aU,aV]
     rfl
    refine aN (i:=23) (N:=some 109) (v:=?_) (a':=?_) #[true,true,true,true,true,true,true,true,true,true,true,true,true,true,true,true,true,true,true,true,true,true,true,true,false,false] rfl rfl aq (fun _ _ _ h=>h) (Or.inl ⟨by rfl,?_⟩) ?_ ?_
    rotate_left
    ·intro w'
     go_simp
     with_reducible rfl
    rotate_left
    ·simp only [Act.put,List.setIfInBounds_toArray,List.set_cons_zero,List.set_cons_succ,aU,aV]
     rfl
    refine aN (i:=24) (N:=some 110) (v:=?_) (a':=?_) #[true,true,true,true,true,true,true,true,true,true,true,true,true,true,true,true,true,true,true,true,true,true,true,true,true,false] rfl rfl aq (fun _ _ _ h=>h) (Or.inl ⟨by rfl,?_⟩) ?_ ?_
    rotate_left
    ·intro w'
     go_simp
     with_reducible rfl
    rotate_left
    ·simp only [Act.put,List.setIfInBounds_toArray,List.set_cons_zero,List.set_cons_succ,aU,aV]
     rfl
    refine aN (i:=25) (N:=some 111) (v:=?_) (a':=?_) #[true,true,true,true,true,true,true,true,true,true,true,true,true,true,true,true,true,true,true,true,true,true,true,true,true,true] rfl rfl aq (fun _ _ _ h=>h) (Or.inl ⟨by rfl,?_⟩) ?_ ?_
    rotate_left
    ·intro w'
     go_simp
     with_reducible rfl
    rotate_left
    ·simp only [Act.put,List.setIfInBounds_toArray,List.set_cons_zero,List.set_cons_succ,aU,aV]
     rfl
    refine nk aq ?_
    cases z
    ·skip
     obtain rfl:B=false:=UI.out.trans vO
     go_wp2
     go_ret
     exact ⟨rfl,qo.out.hq.bl,fun h=>by cases h⟩
    ·skip
     have p1:=qo.out.q1
     go_wp2_with (first|(go_at_call 107;refine (Ax qo.out.hq HDT.out HLN.out).mono ?_;rintro e w7 ⟨rfl,hs7,hb7,TI⟩;have OX:=fG qo.out.hq.hq TI (fun e=>HNE.out (Option.some.inj e).symm);have qU:=fG TJ.out TI (Kd.Lj qo.out.hq.hs TJ.out bB);have p7:w7.cell? ⟨gq,1,none⟩=some (.slice (some ⟨gm,0,none⟩) ms.length cv):=(af OX 1).trans rfl;have f7:=aa OX 1;have k0_ :=(af qU 0).trans rfl;have k1_ :=(af qU 1).trans rfl;have k2_ :=(af qU 2).trans rfl;have k3_ :=(af qU 3).trans rfl;have k4_ :=(af qU 4).trans rfl;have k5_ :=(af qU 5).trans rfl;have k6_ :=(af qU 6).trans rfl;have k7_ :=(af qU 7).trans rfl;have k8_ :=(af qU 8).trans rfl;have k9_ :=(af qU 9).trans rfl;have agF:=(af qU 10).trans rfl;have agG:=(af qU 11).trans rfl;have agH:=(af qU 12).trans rfl;have UK:=ah.mk (QW.put hb7 OX qo.out.hq.ge hs7);clear hs7 hb7 TI OX qU))
     obtain rfl:B=true:=UI.out.trans vO
     obtain rfl:N=n:=HNV.out.trans wE
     obtain rfl:M=ms.eraseIdx i:=HMV.out.trans wE
     go_ret
     exact ⟨rfl,UK.out.bl,fun _ =>⟨_,UK.out⟩⟩
   ·skip
    obtain rfl:B=false:=UI.out.trans vO
    refine kK (n:=26) (S:=fun w'=>w'.cell? ⟨gq,0,none⟩=some (.int .i64 n)∧w'.cell? ⟨w.heap.size,4,none⟩=some (.int .i64 m.f0)∧w'.cell? ⟨w.heap.size,5,none⟩=some (.bool m.f1.f0)∧w'.cell? ⟨w.heap.size,6,none⟩=some (.slice A2 m.f1.f1.length c2)∧w'.cell? ⟨w.heap.size,7,none⟩=some (.string m.f1.f2.f0)∧w'.cell? ⟨w.heap.size,8,none⟩=some (.string m.f1.f2.f1)∧w'.cell? ⟨w.heap.size,9,none⟩=some (.bool m.f1.f2.f2)∧w'.cell? ⟨w.heap.size,10,none⟩=some (.slice A6 m.f2.length c6)∧w'.cell? ⟨w.heap.size,11,none⟩=some (.slice A7 m.f3.length c7)∧w'.cell? ⟨w.heap.size,12,none⟩=some (.int .i64 m.f4)∧w'.cell? ⟨gm,i * 9,none⟩=some (.int .i64 x.f0)∧w'.cell? ⟨gm,i * 9 + 1,none⟩=some (.bool x.f1.f0)∧w'.cell? ⟨gm,i * 9 + 2,none⟩=some (.slice B2 x.f1.f1.length d2)∧w'.cell? ⟨gm,i * 9 + 3,none⟩=some (.string x.f1.f2.f0)∧w'.cell? ⟨gm,i * 9 + 4,none⟩=some (.string x.f1.f2.f1)∧w'.cell? ⟨gm,i * 9 + 5,none⟩=some (.bool x.f1.f2.f2)∧w'.cell? ⟨gm,i * 9 + 6,none⟩=some (.slice B6 x.f2.length d6)∧w'.cell? ⟨gm,i * 9 + 7,none⟩=some (.slice B7 x.f3.length d7)∧w'.cell? ⟨gm,i * 9 + 8,none⟩=some (.int .i64 x.f4)) (ds:=[]) #[false,false,false,false,false,false,false,false,false,false,false,false,false,false,false,false,false,false,false,false,false,false,false,false,false,false] aq (by rfl) (by rfl) ⟨fy.out.q0,fy.out.c0,fy.out.c1,fy.out.c2,fy.out.c3,fy.out.c4,fy.out.c5,fy.out.c6,fy.out.c7,fy.out.c8,fy.out.x0,fy.out.x1,fy.out.x2,fy.out.x3,fy.out.x4,fy.out.x5,fy.out.x6,fy.out.x7,fy.out.x8⟩ (fun hHeld=>?_)
    refine aN (i:=0) (N:=some 86) (v:=?_) (a':=?_) #[true,false,false,false,false,false,false,false,false,false,false,false,false,false,false,false,false,false,false,false,false,false,false,false,false,false] rfl rfl aq (fun _ _ _ h=>h) (Or.inl ⟨by rfl,?_⟩) ?_ ?_
    rotate_left
    ·intro w'
     go_simp
     with_reducible rfl
    rotate_left
    ·simp only [Act.put,List.setIfInBounds_toArray,List.set_cons_zero,List.set_cons_succ,aU,aV]
     rfl
    refine aN (i:=1) (N:=some 87) (v:=?_) (a':=?_) #[true,true,false,false,false,false,false,false,false,false,false,false,false,false,false,false,false,false,false,false,false,false,false,false,false,false] rfl rfl aq (fun _ _ _ h=>h) (Or.inl ⟨by rfl,?_⟩) ?_ ?_
    rotate_left
    ·intro w'
     go_simp
     with_reducible rfl
    rotate_left
    ·simp only [Act.put,List.setIfInBounds_toArray,List.set_cons_zero,List.set_cons_succ,aU,aV]
     rfl
    refine aN (i:=2) (N:=some 88) (v:=?_) (a':=?_) #[true,true,true,false,false,false,false,false,false,false,false,false,false,false,false,false,false,false,false,false,false,false,false,false,false,false] rfl rfl aq (fun _ _ _ h=>h) (Or.inl ⟨by rfl,?_⟩) ?_ ?_
    rotate_left
    ·intro w'
     go_simp
     with_reducible rfl
    rotate_left
    ·simp only [Act.put,List.setIfInBounds_toArray,List.set_cons_zero,List.set_cons_succ,aU,aV]
     rfl
    refine aN (i:=3) (N:=some 89) (v:=?_) (a':=?_) #[true,true,true,true,false,false,false,false,false,false,false,false,false,false,false,false,false,false,false,false,false,false,false,false,false,false] rfl rfl aq (fun _ _ _ h=>h) (Or.inl ⟨by rfl,?_⟩) ?_ ?_
    rotate_left
    ·intro w'
     go_simp
     with_reducible rfl
    rotate_left
    ·simp only [Act.put,List.setIfInBounds_toArray,List.set_cons_zero,List.set_cons_succ,aU,aV]
     rfl
    refine aN (i:=4) (N:=some 90) (v:=?_) (a':=?_) #[true,true,true,true,true,false,false,false,false,false,false,false,false,false,false,false,false,false,false,false,false,false,false,false,false,false] rfl rfl aq (fun _ _ _ h=>h) (Or.inl ⟨by rfl,?_⟩) ?_ ?_
    rotate_left
    ·intro w'
     go_simp
     with_reducible rfl
    rotate_left
    ·simp only [Act.put,List.setIfInBounds_toArray,List.set_cons_zero,List.set_cons_succ,aU,aV]
     rfl
    refine aN (i:=6) (N:=some 92) (v:=?_) (a':=?_) #[true,true,true,true,true,false,true,false,false,false,false,false,false,false,false,false,false,false,false,false,false,false,false,false,false,false] rfl rfl aq (fun _ _ _ h=>h) (Or.inl ⟨by rfl,?_⟩) ?_ ?_
    rotate_left
    ·intro w'
     go_simp
     with_reducible rfl
    rotate_left
    ·simp only [Act.put,List.setIfInBounds_toArray,List.set_cons_zero,List.set_cons_succ,aU,aV]
     rfl
    refine aN (i:=7) (N:=some 93) (v:=?_) (a':=?_) #[true,true,true,true,true,false,true,true,false,false,false,false,false,false,false,false,false,false,false,false,false,false,false,false,false,false] rfl rfl aq (fun _ _ _ h=>h) (Or.inl ⟨by rfl,?_⟩) ?_ ?_
    rotate_left
    ·intro w'
     go_simp
     with_reducible rfl
    rotate_left
    ·simp only [Act.put,List.setIfInBounds_toArray,List.set_cons_zero,List.set_cons_succ,aU,aV]
     rfl
    refine aN (i:=9) (N:=some 95) (v:=?_) (a':=?_) #[true,true,true,true,true,false,true,true,false,true,false,false,false,false,false,false,false,false,false,false,false,false,false,false,false,false] rfl rfl aq (fun _ _ _ h=>h) (Or.inl ⟨by rfl,?_⟩) ?_ ?_
    rotate_left
    ·intro w'
     go_simp
     with_reducible rfl
    rotate_left
    ·simp only [Act.put,List.setIfInBounds_toArray,List.set_cons_zero,List.set_cons_succ,aU,aV]
     rfl
    refine aN (i:=10) (N:=some 96) (v:=?_) (a':=?_) #[true,true,true,true,true,false,true,true,false,true,true,false,false,false,false,false,false,false,false,false,false,false,false,false,false,false] rfl rfl aq (fun _ _ _ h=>h) (Or.inl ⟨by rfl,?_⟩) ?_ ?_
    rotate_left
    ·intro w'
     go_simp
     with_reducible rfl
    rotate_left
    ·simp only [Act.put,List.setIfInBounds_toArray,List.set_cons_zero,List.set_cons_succ,aU,aV]
     rfl
    refine aN (i:=11) (N:=some 97) (v:=?_) (a':=?_) #[true,true,true,true,true,false,true,true,false,true,true,true,false,false,false,false,false,false,false,false,false,false,false,false,false,false] rfl rfl aq (fun _ _ _ h=>h) (Or.inl ⟨by rfl,?_⟩) ?_ ?_
    rotate_left
    ·intro w'
     go_simp
     with_reducible rfl
    rotate_left
    ·simp only [Act.put,List.setIfInBounds_toArray,List.set_cons_zero,List.set_cons_succ,aU,aV]
     rfl
    refine fN (i:=5) (N:=some 91) (v:=?_) (a':=?_) #[true,true,true,true,true,true,true,true,false,true,true,true,false,false,false,false,false,false,false,false,false,false,false,false,false,false] rfl rfl aq (fun _ _ _ h=>h) (Or.inl ⟨by rfl,?_⟩) hHeld ?_ ?_
    rotate_left
    ·rintro w' ⟨s0,s1,s2,s3,s4,s5,s6,s7,s8,s9,Ez,EC,s12,EP,ER,ES,ET,EU,EW⟩
     go_simp
     with_reducible rfl
    rotate_left
    ·simp only [Act.put,List.setIfInBounds_toArray,List.set_cons_zero,List.set_cons_succ,aU,aV]
     rfl
    refine fN (i:=8) (N:=some 94) (v:=?_) (a':=?_) #[true,true,true,true,true,true,true,true,true,true,true,true,false,false,false,false,false,false,false,false,false,false,false,false,false,false] rfl rfl aq (fun _ _ _ h=>h) (Or.inl ⟨by rfl,?_⟩) hHeld ?_ ?_
    rotate_left
    ·rintro w' ⟨s0,s1,s2,s3,s4,s5,s6,s7,s8,s9,Ez,EC,s12,EP,ER,ES,ET,EU,EW⟩
     go_simp
     with_reducible rfl
    rotate_left
    ·simp only [Act.put,List.setIfInBounds_toArray,List.set_cons_zero,List.set_cons_succ,aU,aV]
     rfl
    refine fN (i:=12) (N:=some 98) (v:=?_) (a':=?_) #[true,true,true,true,true,true,true,true,true,true,true,true,true,false,false,false,false,false,false,false,false,false,false,false,false,false] rfl rfl aq (fun _ _ _ h=>h) (Or.inl ⟨by rfl,?_⟩) hHeld ?_ ?_
    rotate_left
    ·rintro w' ⟨s0,s1,s2,s3,s4,s5,s6,s7,s8,s9,Ez,EC,s12,EP,ER,ES,ET,EU,EW⟩
     go_simp
     with_reducible rfl
    rotate_left
    ·simp only [Act.put,List.setIfInBounds_toArray,List.set_cons_zero,List.set_cons_succ,aU,aV]
     rfl
    refine nL (i:=13) (N:=some 99) #[true,true,true,true,true,true,true,true,true,true,true,true,true,true,false,false,false,false,false,false,false,false,false,false,false,false] rfl rfl aq bB (fun K hK=>?_)
    refine lg Tryz.func106 aq rfl #[.agg #[.int .i64 m.f0,.bool m.f1.f0,.slice A2 m.f1.f1.length c2,.string m.f1.f2.f0,.string m.f1.f2.f1,.bool m.f1.f2.f2,.slice A6 m.f2.length c6,.slice A7 m.f3.length c7,.int .i64 m.f4],.agg #[.int .i64 x.f0,.bool x.f1.f0,.slice B2 x.f1.f1.length d2,.string x.f1.f2.f0,.string x.f1.f2.f1,.bool x.f1.f2.f2,.slice B6 x.f2.length d6,.slice B7 x.f3.length d7,.int .i64 x.f4],.int .i64 n] (by rfl) rfl rfl tT ?_
    with_reducible refine (HBO.out).mono ?_
    rintro e w5 ⟨rfl,tL⟩
    refine ⟨_,rfl,?_⟩
    have gu:=ah.mk (fy.out.below tL)
    have Iu:=ah.mk (az QV.out tL)
    clear tL
    refine hK.out _ _ ⟨gu.out.q0,gu.out.c0,gu.out.c1,gu.out.c2,gu.out.c3,gu.out.c4,gu.out.c5,gu.out.c6,gu.out.c7,gu.out.c8,gu.out.x0,gu.out.x1,gu.out.x2,gu.out.x3,gu.out.x4,gu.out.x5,gu.out.x6,gu.out.x7,gu.out.x8⟩ (fun hHeld=>?_)
    clear hK K
    refine jW (a':=?_) ?_ ?_
    rotate_left
    ·show Act.put _ (some 99) _=_
     simp only [Act.put,List.setIfInBounds_toArray,List.set_cons_zero,List.set_cons_succ,aU,aV]
     rfl
    refine aN (i:=14) (N:=some 100) (v:=?_) (a':=?_) #[true,true,true,true,true,true,true,true,true,true,true,true,true,true,true,false,false,false,false,false,false,false,false,false,false,false] rfl rfl aq (fun _ _ _ h=>h) (Or.inl ⟨by rfl,?_⟩) ?_ ?_
    rotate_left
    ·intro w'
     go_simp
     with_reducible rfl
    rotate_left
    ·simp only [Act.put,List.setIfInBounds_toArray,List.set_cons_zero,List.set_cons_succ,aU,aV]
     rfl
    refine aN (i:=15) (N:=some 101) (v:=?_) (a':=?_) #[true,true,true,true,true,true,true,true,true,true,true,true,true,true,true,true,false,false,false,false,false,false,false,false,false,false] rfl rfl aq (fun _ _ _ h=>h) (Or.inl ⟨by rfl,?_⟩) ?_ ?_
    rotate_left
    ·intro w'
     go_simp
     with_reducible rfl
    rotate_left
    ·simp only [Act.put,List.setIfInBounds_toArray,List.set_cons_zero,List.set_cons_succ,aU,aV]
     rfl
    refine aN (i:=16) (N:=some 102) (v:=?_) (a':=?_) #[true,true,true,true,true,true,true,true,true,true,true,true,true,true,true,true,true,false,false,false,false,false,false,false,false,false] rfl rfl aq (fun _ _ _ h=>h) (Or.inl ⟨by rfl,?_⟩) ?_ ?_
    rotate_left
    ·intro w'
     go_simp
     with_reducible rfl
    rotate_left
    ·simp only [Act.put,List.setIfInBounds_toArray,List.set_cons_zero,List.set_cons_succ,aU,aV]
     rfl
    refine aN (i:=17) (N:=some 103) (v:=undef) (a':=?_) #[true,true,true,true,true,true,true,true,true,true,true,true,true,true,true,true,true,true,false,false,false,false,false,false,false,false] rfl rfl aq (fun _ _ _ h=>h) (Or.inr ⟨by rfl,rfl⟩) ?_ ?_
    rotate_left
    ·simp only [Act.put,List.setIfInBounds_toArray,List.set_cons_zero,List.set_cons_succ,aU,aV]
     rfl
    refine aN (i:=18) (N:=some 104) (v:=undef) (a':=?_) #[true,true,true,true,true,true,true,true,true,true,true,true,true,true,true,true,true,true,true,false,false,false,false,false,false,false] rfl rfl aq (fun _ _ _ h=>h) (Or.inr ⟨by rfl,rfl⟩) ?_ ?_
    rotate_left
    ·simp only [Act.put,List.setIfInBounds_toArray,List.set_cons_zero,List.set_cons_succ,aU,aV]
     rfl
    refine aN (i:=19) (N:=some 105) (v:=undef) (a':=?_) #[true,true,true,true,true,true,true,true,true,true,true,true,true,true,true,true,true,true,true,true,false,false,false,false,false,false] rfl rfl aq (fun _ _ _ h=>h) (Or.inr ⟨by rfl,rfl⟩) ?_ ?_
    rotate_left
    ·simp only [Act.put,List.setIfInBounds_toArray,List.set_cons_zero,List.set_cons_succ,aU,aV]
     rfl
    refine aN (i:=20) (N:=some 106) (v:=undef) (a':=?_) #[true,true,true,true,true,true,true,true,true,true,true,true,true,true,true,true,true,true,true,true,true,false,false,false,false,false] rfl rfl aq (fun _ _ _ h=>h) (Or.inr ⟨by rfl,rfl⟩) ?_ ?_
    rotate_left
    ·simp only [Act.put,List.setIfInBounds_toArray,List.set_cons_zero,List.set_cons_succ,aU,aV]
     rfl
    refine aN (i:=21) (N:=some 107) (v:=undef) (a':=?_) #[true,true,true,true,true,true,true,true,true,true,true,true,true,true,true,true,true,true,true,true,true,true,false,false,false,false] rfl rfl aq (fun _ _ _ h=>h) (Or.inr ⟨by rfl,rfl⟩) ?_ ?_
    rotate_left
    ·simp only [Act.put,List.setIfInBounds_toArray,List.set_cons_zero,List.set_cons_succ,aU,aV]
     rfl
    refine aN (i:=22) (N:=some 108) (v:=undef) (a':=?_) #[true,true,true,true,true,true,true,true,true,true,true,true,true,true,true,true,true,true,true,true,true,true,true,false,false,false] rfl rfl aq (fun _ _ _ h=>h) (Or.inr ⟨by rfl,rfl⟩) ?_ ?_
    rotate_left
    ·simp only [Act.put,List.setIfInBounds_toArray,List.set_cons_zero,List.set_cons_succ,aU,aV]
     rfl
    refine aN (i:=23) (N:=some 109) (v:=undef) (a':=?_) #[true,true,true,true,true,true,true,true,true,true,true,true,true,true,true,true,true,true,true,true,true,true,true,true,false,false] rfl rfl aq (fun _ _ _ h=>h) (Or.inr ⟨by rfl,rfl⟩) ?_ ?_
    rotate_left
    ·simp only [Act.put,List.setIfInBounds_toArray,List.set_cons_zero,List.set_cons_succ,aU,aV]
     rfl
    refine aN (i:=24) (N:=some 110) (v:=undef) (a':=?_) #[true,true,true,true,true,true,true,true,true,true,true,true,true,true,true,true,true,true,true,true,true,true,true,true,true,false] rfl rfl aq (fun _ _ _ h=>h) (Or.inr ⟨by rfl,rfl⟩) ?_ ?_
    rotate_left
    ·simp only [Act.put,List.setIfInBounds_toArray,List.set_cons_zero,List.set_cons_succ,aU,aV]
     rfl
    refine aN (i:=25) (N:=some 111) (v:=?_) (a':=?_) #[true,true,true,true,true,true,true,true,true,true,true,true,true,true,true,true,true,true,true,true,true,true,true,true,true,true] rfl rfl aq (fun _ _ _ h=>h) (Or.inl ⟨by rfl,?_⟩) ?_ ?_
    rotate_left
    ·intro w'
     go_simp
     with_reducible rfl
    rotate_left
    ·simp only [Act.put,List.setIfInBounds_toArray,List.set_cons_zero,List.set_cons_succ,aU,aV]
     rfl
    refine nk aq ?_
    go_wp2
    go_ret
    exact ⟨rfl,gu.out.hq.bl,fun h=>by cases h⟩
end Go.Proofs.YtbjjaaodfbjkfaaGreatDoor.mN
