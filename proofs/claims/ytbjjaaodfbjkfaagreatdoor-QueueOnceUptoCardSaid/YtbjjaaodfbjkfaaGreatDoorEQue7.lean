import Derived.Test.YtbjjaaodfbjkfaaGreatDoorEQue5
import Derived.Test.YtbjjaaodfbjkfaaGreatDoorESettled
import Derived.Test.YtbjjaaodfbjkfaaGreatDoorQQux13
namespace Go.Proofs.YtbjjaaodfbjkfaaGreatDoor.mU
open Go.RowKit Go.Proofs.ak.bR Go.Proofs.ak.dz Go.Proofs.ak.cZ
set_option linter.unusedVariables false
set_option linter.unusedSimpArgs false
structure CW (w0 w W:World) (gq gm i:Nat) (n:Int) (v:Value) (ms:List Ml) (m x:Ml) (A2:Option Addr) (c2:Nat) (A6:Option Addr) (c6:Nat) (A7:Option Addr) (c7:Nat) (B2:Option Addr) (d2:Nat) (B6:Option Addr) (d6:Nat) (B7:Option Addr) (d7:Nat):Prop where
 bl:Below w.heap.size w W
 hq:QW w0 W gq n v ms
 q0:W.cell? ⟨gq,0,none⟩=some (.int .i64 n)
 q1:W.cell? ⟨gq,1,none⟩=some v
 c0:W.cell? ⟨w.heap.size,4,none⟩=some (.int .i64 m.f0)
 c1:W.cell? ⟨w.heap.size,5,none⟩=some (.bool m.f1.f0)
 c2:W.cell? ⟨w.heap.size,6,none⟩=some (.slice A2 m.f1.f1.length c2)
 c3:W.cell? ⟨w.heap.size,7,none⟩=some (.string m.f1.f2.f0)
 c4:W.cell? ⟨w.heap.size,8,none⟩=some (.string m.f1.f2.f1)
 c5:W.cell? ⟨w.heap.size,9,none⟩=some (.bool m.f1.f2.f2)
 c6:W.cell? ⟨w.heap.size,10,none⟩=some (.slice A6 m.f2.length c6)
 c7:W.cell? ⟨w.heap.size,11,none⟩=some (.slice A7 m.f3.length c7)
 c8:W.cell? ⟨w.heap.size,12,none⟩=some (.int .i64 m.f4)
 x0:W.cell? ⟨gm,i * 9,none⟩=some (.int .i64 x.f0)
 x1:W.cell? ⟨gm,i * 9 + 1,none⟩=some (.bool x.f1.f0)
 x2:W.cell? ⟨gm,i * 9 + 2,none⟩=some (.slice B2 x.f1.f1.length d2)
 x3:W.cell? ⟨gm,i * 9 + 3,none⟩=some (.string x.f1.f2.f0)
 x4:W.cell? ⟨gm,i * 9 + 4,none⟩=some (.string x.f1.f2.f1)
 x5:W.cell? ⟨gm,i * 9 + 5,none⟩=some (.bool x.f1.f2.f2)
 x6:W.cell? ⟨gm,i * 9 + 6,none⟩=some (.slice B6 x.f2.length d6)
 x7:W.cell? ⟨gm,i * 9 + 7,none⟩=some (.slice B7 x.f3.length d7)
 x8:W.cell? ⟨gm,i * 9 + 8,none⟩=some (.int .i64 x.f4)
theorem CW.below {w0 w W W1:World} {gq gm i:Nat} {n:Int} {v:Value} {ms:List Ml} {m x:Ml} {A2:Option Addr} {c2:Nat} {A6:Option Addr} {c6:Nat} {A7:Option Addr} {c7:Nat} {B2:Option Addr} {d2:Nat} {B6:Option Addr} {d6:Nat} {B7:Option Addr} {d7:Nat}
 (h:CW w0 w W gq gm i n v ms m x A2 c2 A6 c6 A7 c7 B2 d2 B6 d6 B7 d7) (hb:Below W.heap.size W W1):CW w0 w W1 gq gm i n v ms m x A2 c2 A6 c6 A7 c7 B2 d2 B6 d6 B7 d7:=
 have g:=fun {a:Addr} {u:Value} (hc:W.cell? a=some u)=>lX hb hc
 ⟨dL h.bl h.bl.size hb,h.hq.below hb,g h.q0,g h.q1,g h.c0,g h.c1,g h.c2,g h.c3,g h.c4,g h.c5,g h.c6,g h.c7,g h.c8,g h.x0,g h.x1,g h.x2,g h.x3,g h.x4,g h.x5,g h.x6,g h.x7,g h.x8⟩
variable {w0 w:World} {gq:Nat} {n:Int} {v:Value} {ms:List Ml} {kind id at_ due:Int} {m:Ml} {A2:Option Addr} {c2:Nat} {A6:Option Addr} {c6:Nat} {A7:Option Addr} {c7:Nat}
theorem zP {w w1:World} (h:Below w.heap.size w w1):Below w.heap.size w w1.drew:=fS h
theorem AV {w0 W:World} {gq gm cv i:Nat} {n:Int} {ms:List Ml} (hq:QW w0 W gq n (.slice (some ⟨gm,0,none⟩) ms.length cv) ms) (hi:i < ms.length) (hl:ms.length * 136≤140737488355328):
 Calls Tryz.prog 107 #[.slice (some ⟨gm,0,none⟩) ms.length cv,.int .i64 i,.int .i64 (wrap64 ((i:Int) + 1))] W fun e w'=>e= .returned (.slice (some ⟨gm,0,none⟩) (ms.length - 1) cv)∧Kd.S KW 34 w' w0.heap.size (fun _ =>True) (.slice (some ⟨gm,0,none⟩) (ms.length - 1) cv) (ms.eraseIdx i)∧Below w0.heap.size w0 w'∧W.grownBy w' (some gm):=by
 have ew:wrap64 ((i:Int) + 1)=(i:Int) + 1:=by unfold wrap64;omega
 rw [ew]
 exact Iw ms gm cv i w0.heap.size w0 W hq.hs hi hq.bl hq.bl.size
def Close (owes b z:Bool) (done:Bool):Bool:=done && (owes == b && (owes || z))
set_option maxRecDepth 100000 in
set_option maxHeartbeats 16000000 in
theorem Eg (hW:QW w0 w gq n v ms) (hR:MR w0 m A2 c2 A6 c6 A7 c7) (hk:kind=5) (i:Nat) (x:Ml) (hi:lG id ms 0=i) (hx:ms[i]? =some x) (b z:Bool)
 (hbo:(!hasB x.f2 0)=true→dA.f m.f0 m.f1.f0 m.f1.f1 m.f1.f2.f0 m.f1.f2.f1 m.f1.f2.f2 m.f2 m.f3 m.f4 x.f0 x.f1.f0 x.f1.f1 x.f1.f2.f0 x.f1.f2.f1 x.f1.f2.f2 x.f2 x.f3 x.f4 n=some b) (hno:dc.f m.f0 m.f1.f0 m.f1.f1 m.f1.f2.f0 m.f1.f2.f1 m.f1.f2.f2 m.f2 m.f3 m.f4=some z)
 (hown:rK m) (hlen:ms.length * 136≤140737488355328) (B:Bool) (N:Int) (M:List Ml) (hB:B=Close (hasB x.f2 2 && !x.f1.f0) b z (!hasB x.f2 0)) (hN:N=if (hasB x.f2 2 && !x.f1.f0)=true then wrap64 (m.f0 + 1) else n) (hM:M=if (hasB x.f2 2 && !x.f1.f0)=true then ms.eraseIdx i ++ [m] else ms.eraseIdx i):
 Calls Tryz.prog 59 #[.pointer (some ⟨gq,0,none⟩),.agg (gI kind id at_ due m A2 c2 A6 c6 A7 c7)] w (FR w0 gq B N M):=by
 subst hk
 have hu1:=Tryz.underlying46
 have hu2:=Tryz.underlying40
 have hu3:=Tryz.underlying34
 obtain ⟨Av,cv,rfl⟩:=Kd.iH hW.hs
 have hil:i < ms.length:=(List.getElem?_eq_some_iff.1 hx).1
 have hll:(ms.eraseIdx i).length=ms.length - 1:=by rw [List.length_eraseIdx,if_pos hil]
 have wm:=ah.mk (hW.below (b9 (Below.refl _ _) (.cells (gI 5 id at_ due m A2 c2 A6 c6 A7 c7) 46)))
 have qc:=ah.mk (b9 (Below.refl w.heap.size w) (.cells (gI 5 id at_ due m A2 c2 A6 c6 A7 c7) 46))
 have hq1:(w.alloc (.cells (gI 5 id at_ due m A2 c2 A6 c6 A7 c7) 46)).cell? ⟨gq,1,none⟩=some (.slice Av ms.length cv):=(af wm.out.hq 1).trans rfl
 have HI:=ah.mk (uA ms id Av cv w.heap.size (w.alloc (.cells (gI 5 id at_ due m A2 c2 A6 c6 A7 c7) 46)) (Kd.fu wm.out.hs).2.2 ((af (jg w _) 1).trans rfl))
 rw [hi] at HI
 have HX:=ah.mk hx
 have er:decide ((i:Int) < 0)=false:=decide_eq_false az
 have Dp:=ah.mk (jg w (.cells (gI 5 id at_ due m A2 c2 A6 c6 A7 c7) 46))
 have HGQ:=ah.mk (show gq < w.heap.size from dQ hW.hq)
 have HHL:=ah.mk hll
 clear hll
 have HNO:=ah.mk (fun W (hb:Below w0.heap.size w0 W)=>dc.calls m.f0 m.f1.f0 A2 c2 m.f1.f1 m.f1.f2.f0 m.f1.f2.f1 m.f1.f2.f2 A6 c6 m.f2 A7 c7 m.f3 m.f4 z W (hR.below hb).r2 hR.c2 (hR.below hb).r6 hR.c6 (hR.below hb).r7 hR.c7 hno)
 have yZ:=ah.mk hR
 have HOW:=ah.mk (Ef hown)
 have HLN:=ah.mk hlen
 have HBF:=ah.mk hbo
 have HDT:=ah.mk hil
 clear hno hR hown hlen hbo hW hi hx
 have HST:=ah.mk (show kT.f x.f0 x.f1.f0 x.f1.f1 x.f1.f2.f0 x.f1.f2.f1 x.f1.f2.f2 x.f2 x.f3 x.f4=some (!hasB x.f2 0,hasB x.f2 2) from rfl)
 obtain ⟨d0,hd0⟩:∃ d0,d0= !hasB x.f2 0:=⟨_,rfl⟩
 obtain ⟨f0,hf0⟩:∃ f0,f0=hasB x.f2 2:=⟨_,rfl⟩
 rw [← hd0,← hf0] at HST
 rw [← hd0,← hf0] at hB
 rw [← hf0] at hN hM
 rw [← hd0] at HBF
 have Vy:=ah.mk hB
 have HNV:=ah.mk hN
 have HMV:=ah.mk hM
 clear hB hN hM hd0 hf0
 go_enter Tryz.func59,Tryz.ntmps59
 go_wp2_with (first|(go_at_call 104;refine HI.out.mono ?_;rintro e w1 ⟨rfl,hb1⟩;have zM:=ah.mk (wm.out.below hb1);have ayx:=ah.mk (dL qc.out qc.out.size hb1);obtain ⟨gm,cm,v2,v6,v7,qu,hv,hne,hcells,Jh,vN,Ji,hback⟩:=zM.out.Jg i x HX.out;injection hv with hv1 hv2 hv3;subst hv1 hv3;have HNE:=ah.mk hne;have RP:w1.cell? ⟨gq,1,none⟩=some (.slice (some ⟨gm,0,none⟩) ms.length cv):=(af zM.out.hq 1).trans rfl;obtain ⟨B2,d2,rfl⟩:=Kd.dm Jh;obtain ⟨B6,d6,rfl⟩:=Kd.dm vN;obtain ⟨B7,d7,rfl⟩:=Kd.dm Ji;have UF:=ah.mk (show CW w0 w w1 gq gm i n (.slice (some ⟨gm,0,none⟩) ms.length cv) ms m x A2 c2 A6 c6 A7 c7 B2 d2 B6 d6 B7 d7 from ⟨ayx.out,zM.out,(af zM.out.hq 0).trans rfl,RP,(af (aA Dp.out hb1) 4).trans rfl,(af (aA Dp.out hb1) 5).trans rfl,(af (aA Dp.out hb1) 6).trans rfl,(af (aA Dp.out hb1) 7).trans rfl,(af (aA Dp.out hb1) 8).trans rfl,(af (aA Dp.out hb1) 9).trans rfl,(af (aA Dp.out hb1) 10).trans rfl,(af (aA Dp.out hb1) 11).trans rfl,(af (aA Dp.out hb1) 12).trans rfl,hcells 0 _ rfl,hcells 1 _ rfl,hcells 2 _ rfl,hcells 3 _ rfl,hcells 4 _ rfl,hcells 5 _ rfl,hcells 6 _ rfl,hcells 7 _ rfl,hcells 8 _ rfl⟩);have ayz:=ah.mk (aA Dp.out hb1);have UG:=ah.mk (Kd.ck Jh);have ZA:=ah.mk (Kd.ck vN);have HS7:=ah.mk (Kd.ck Ji);have hc0:w1.cell? ⟨w.heap.size,0,none⟩=some (.int .u8 5):=(af (aA Dp.out hb1) 0).trans rfl;have hx0:=UF.out.x0;have hx1:=UF.out.x1;have hx2:=UF.out.x2;have hx3:=UF.out.x3;have ET:=UF.out.x4;have BF:=UF.out.x5;have LR:=UF.out.x6;have SC:=UF.out.x7;have Zi:=UF.out.x8;clear hb1 hcells hback Jh vN Ji hne)|(go_at_call 61;refine (kT.calls x.f0 x.f1.f0 B2 d2 x.f1.f1 x.f1.f2.f0 x.f1.f2.f1 x.f1.f2.f2 B6 d6 x.f2 B7 d7 x.f3 x.f4 _ _ w1 UG.out.2.2 UG.out.2.1 ZA.out.2.2 ZA.out.2.1 HS7.out.2.2 HS7.out.2.1 HST.out).mono ?_;rintro e w4 ⟨rfl,hb4⟩;have fA:=ah.mk (UF.out.below (zP hb4));have RT:=ah.mk (aA ayz.out (zP hb4));have HT2:=ah.mk (Kd.Me (Kd.bQ UG.out.2.2 hb4));have HT6:=ah.mk (Kd.Me (Kd.bQ ZA.out.2.2 hb4));have HT7:=ah.mk (Kd.Me (Kd.bQ HS7.out.2.2 hb4));have hy1:w4.cell? ⟨gm,i * 9 + 1,none⟩=some (.bool x.f1.f0):=(UF.out.below hb4).x1;have HBQ:=ah.mk (zM.out.below hb4);clear hb4))
 ·have hf:f0=true:=by assumption
  cases d0
  ·skip
   obtain rfl:B=false:=Vy.out.trans (by simp [Close])
   clear hf
   refine kS (n:=26) (S:=fun w'=>w'.cell? ⟨gq,0,none⟩=some (.int .i64 n)∧w'.cell? ⟨w.heap.size,4,none⟩=some (.int .i64 m.f0)∧w'.cell? ⟨w.heap.size,5,none⟩=some (.bool m.f1.f0)∧w'.cell? ⟨w.heap.size,6,none⟩=some (.slice A2 m.f1.f1.length c2)∧w'.cell? ⟨w.heap.size,7,none⟩=some (.string m.f1.f2.f0)∧w'.cell? ⟨w.heap.size,8,none⟩=some (.string m.f1.f2.f1)∧w'.cell? ⟨w.heap.size,9,none⟩=some (.bool m.f1.f2.f2)∧w'.cell? ⟨w.heap.size,10,none⟩=some (.slice A6 m.f2.length c6)∧w'.cell? ⟨w.heap.size,11,none⟩=some (.slice A7 m.f3.length c7)∧w'.cell? ⟨w.heap.size,12,none⟩=some (.int .i64 m.f4)∧w'.cell? ⟨gm,i * 9,none⟩=some (.int .i64 x.f0)∧w'.cell? ⟨gm,i * 9 + 1,none⟩=some (.bool x.f1.f0)∧w'.cell? ⟨gm,i * 9 + 2,none⟩=some (.slice B2 x.f1.f1.length d2)∧w'.cell? ⟨gm,i * 9 + 3,none⟩=some (.string x.f1.f2.f0)∧w'.cell? ⟨gm,i * 9 + 4,none⟩=some (.string x.f1.f2.f1)∧w'.cell? ⟨gm,i * 9 + 5,none⟩=some (.bool x.f1.f2.f2)∧w'.cell? ⟨gm,i * 9 + 6,none⟩=some (.slice B6 x.f2.length d6)∧w'.cell? ⟨gm,i * 9 + 7,none⟩=some (.slice B7 x.f3.length d7)∧w'.cell? ⟨gm,i * 9 + 8,none⟩=some (.int .i64 x.f4)) (ds:=[]) #[false,false,false,false,false,false,false,false,false,false,false,false,false,false,false,false,false,false,false,false,false,false,false,false,false,false] aq (by rfl) (by rfl) ⟨fA.out.q0,fA.out.c0,fA.out.c1,fA.out.c2,fA.out.c3,fA.out.c4,fA.out.c5,fA.out.c6,fA.out.c7,fA.out.c8,fA.out.x0,fA.out.x1,fA.out.x2,fA.out.x3,fA.out.x4,fA.out.x5,fA.out.x6,fA.out.x7,fA.out.x8⟩ (fun hHeld=>?_)
   refine aN (i:=0) (N:=some 86) (v:=?_) (a':=?_) #[true,false,false,false,false,false,false,false,false,false,false,false,false,false,false,false,false,false,false,false,false,false,false,false,false,false] rfl rfl aq (fun _ _ _ h=>h) (Or.inl ⟨by rfl,?_⟩) ?_ ?_
   rotate_left
   ·intro w'
    go_simp
    with_reducible rfl
   rotate_left
   ·simp only [Act.put,List.setIfInBounds_toArray,List.set_cons_zero,List.set_cons_succ,aV,aW]
    rfl
   refine aN (i:=1) (N:=some 87) (v:=?_) (a':=?_) #[true,true,false,false,false,false,false,false,false,false,false,false,false,false,false,false,false,false,false,false,false,false,false,false,false,false] rfl rfl aq (fun _ _ _ h=>h) (Or.inl ⟨by rfl,?_⟩) ?_ ?_
   rotate_left
   ·intro w'
    go_simp
    with_reducible rfl
   rotate_left
   ·simp only [Act.put,List.setIfInBounds_toArray,List.set_cons_zero,List.set_cons_succ,aV,aW]
    rfl
   refine aN (i:=2) (N:=some 88) (v:=?_) (a':=?_) #[true,true,true,false,false,false,false,false,false,false,false,false,false,false,false,false,false,false,false,false,false,false,false,false,false,false] rfl rfl aq (fun _ _ _ h=>h) (Or.inl ⟨by rfl,?_⟩) ?_ ?_
   rotate_left
   ·intro w'
    go_simp
    with_reducible rfl
   rotate_left
   ·simp only [Act.put,List.setIfInBounds_toArray,List.set_cons_zero,List.set_cons_succ,aV,aW]
    rfl
   refine aN (i:=3) (N:=some 89) (v:=undef) (a':=?_) #[true,true,true,true,false,false,false,false,false,false,false,false,false,false,false,false,false,false,false,false,false,false,false,false,false,false] rfl rfl aq (fun _ _ _ h=>h) (Or.inr ⟨by rfl,rfl⟩) ?_ ?_
   rotate_left
   ·simp only [Act.put,List.setIfInBounds_toArray,List.set_cons_zero,List.set_cons_succ,aV,aW]
    rfl
   refine aN (i:=4) (N:=some 90) (v:=undef) (a':=?_) #[true,true,true,true,true,false,false,false,false,false,false,false,false,false,false,false,false,false,false,false,false,false,false,false,false,false] rfl rfl aq (fun _ _ _ h=>h) (Or.inr ⟨by rfl,rfl⟩) ?_ ?_
   rotate_left
   ·simp only [Act.put,List.setIfInBounds_toArray,List.set_cons_zero,List.set_cons_succ,aV,aW]
    rfl
   refine aN (i:=5) (N:=some 91) (v:=undef) (a':=?_) #[true,true,true,true,true,true,false,false,false,false,false,false,false,false,false,false,false,false,false,false,false,false,false,false,false,false] rfl rfl aq (fun _ _ _ h=>h) (Or.inr ⟨by rfl,rfl⟩) ?_ ?_
   rotate_left
   ·simp only [Act.put,List.setIfInBounds_toArray,List.set_cons_zero,List.set_cons_succ,aV,aW]
    rfl
   refine aN (i:=6) (N:=some 92) (v:=undef) (a':=?_) #[true,true,true,true,true,true,true,false,false,false,false,false,false,false,false,false,false,false,false,false,false,false,false,false,false,false] rfl rfl aq (fun _ _ _ h=>h) (Or.inr ⟨by rfl,rfl⟩) ?_ ?_
   rotate_left
   ·simp only [Act.put,List.setIfInBounds_toArray,List.set_cons_zero,List.set_cons_succ,aV,aW]
    rfl
   refine aN (i:=7) (N:=some 93) (v:=undef) (a':=?_) #[true,true,true,true,true,true,true,true,false,false,false,false,false,false,false,false,false,false,false,false,false,false,false,false,false,false] rfl rfl aq (fun _ _ _ h=>h) (Or.inr ⟨by rfl,rfl⟩) ?_ ?_
   rotate_left
   ·simp only [Act.put,List.setIfInBounds_toArray,List.set_cons_zero,List.set_cons_succ,aV,aW]
    rfl
   refine aN (i:=8) (N:=some 94) (v:=undef) (a':=?_) #[true,true,true,true,true,true,true,true,true,false,false,false,false,false,false,false,false,false,false,false,false,false,false,false,false,false] rfl rfl aq (fun _ _ _ h=>h) (Or.inr ⟨by rfl,rfl⟩) ?_ ?_
   rotate_left
   ·simp only [Act.put,List.setIfInBounds_toArray,List.set_cons_zero,List.set_cons_succ,aV,aW]
    rfl
   refine aN (i:=9) (N:=some 95) (v:=undef) (a':=?_) #[true,true,true,true,true,true,true,true,true,true,false,false,false,false,false,false,false,false,false,false,false,false,false,false,false,false] rfl rfl aq (fun _ _ _ h=>h) (Or.inr ⟨by rfl,rfl⟩) ?_ ?_
   rotate_left
   ·simp only [Act.put,List.setIfInBounds_toArray,List.set_cons_zero,List.set_cons_succ,aV,aW]
    rfl
   refine aN (i:=10) (N:=some 96) (v:=undef) (a':=?_) #[true,true,true,true,true,true,true,true,true,true,true,false,false,false,false,false,false,false,false,false,false,false,false,false,false,false] rfl rfl aq (fun _ _ _ h=>h) (Or.inr ⟨by rfl,rfl⟩) ?_ ?_
   rotate_left
   ·simp only [Act.put,List.setIfInBounds_toArray,List.set_cons_zero,List.set_cons_succ,aV,aW]
    rfl
   refine aN (i:=11) (N:=some 97) (v:=undef) (a':=?_) #[true,true,true,true,true,true,true,true,true,true,true,true,false,false,false,false,false,false,false,false,false,false,false,false,false,false] rfl rfl aq (fun _ _ _ h=>h) (Or.inr ⟨by rfl,rfl⟩) ?_ ?_
   rotate_left
   ·simp only [Act.put,List.setIfInBounds_toArray,List.set_cons_zero,List.set_cons_succ,aV,aW]
    rfl
   refine aN (i:=12) (N:=some 98) (v:=undef) (a':=?_) #[true,true,true,true,true,true,true,true,true,true,true,true,true,false,false,false,false,false,false,false,false,false,false,false,false,false] rfl rfl aq (fun _ _ _ h=>h) (Or.inr ⟨by rfl,rfl⟩) ?_ ?_
   rotate_left
   ·simp only [Act.put,List.setIfInBounds_toArray,List.set_cons_zero,List.set_cons_succ,aV,aW]
    rfl
   refine aN (i:=13) (N:=some 99) (v:=undef) (a':=?_) #[true,true,true,true,true,true,true,true,true,true,true,true,true,true,false,false,false,false,false,false,false,false,false,false,false,false] rfl rfl aq (fun _ _ _ h=>h) (Or.inr ⟨by rfl,rfl⟩) ?_ ?_
   rotate_left
   ·simp only [Act.put,List.setIfInBounds_toArray,List.set_cons_zero,List.set_cons_succ,aV,aW]
    rfl
   refine aN (i:=14) (N:=some 100) (v:=undef) (a':=?_) #[true,true,true,true,true,true,true,true,true,true,true,true,true,true,true,false,false,false,false,false,false,false,false,false,false,false] rfl rfl aq (fun _ _ _ h=>h) (Or.inr ⟨by rfl,rfl⟩) ?_ ?_
   rotate_left
   ·simp only [Act.put,List.setIfInBounds_toArray,List.set_cons_zero,List.set_cons_succ,aV,aW]
    rfl
   refine aN (i:=15) (N:=some 101) (v:=?_) (a':=?_) #[true,true,true,true,true,true,true,true,true,true,true,true,true,true,true,true,false,false,false,false,false,false,false,false,false,false] rfl rfl aq (fun _ _ _ h=>h) (Or.inl ⟨by rfl,?_⟩) ?_ ?_
   rotate_left
   ·intro w'
    go_simp
    with_reducible rfl
   rotate_left
   ·simp only [Act.put,List.setIfInBounds_toArray,List.set_cons_zero,List.set_cons_succ,aV,aW]
    rfl
   refine aN (i:=16) (N:=some 102) (v:=?_) (a':=?_) #[true,true,true,true,true,true,true,true,true,true,true,true,true,true,true,true,true,false,false,false,false,false,false,false,false,false] rfl rfl aq (fun _ _ _ h=>h) (Or.inl ⟨by rfl,?_⟩) ?_ ?_
   rotate_left
   ·intro w'
    go_simp
    with_reducible rfl
   rotate_left
   ·simp only [Act.put,List.setIfInBounds_toArray,List.set_cons_zero,List.set_cons_succ,aV,aW]
    rfl
   refine aN (i:=17) (N:=some 103) (v:=undef) (a':=?_) #[true,true,true,true,true,true,true,true,true,true,true,true,true,true,true,true,true,true,false,false,false,false,false,false,false,false] rfl rfl aq (fun _ _ _ h=>h) (Or.inr ⟨by rfl,rfl⟩) ?_ ?_
   rotate_left
   ·simp only [Act.put,List.setIfInBounds_toArray,List.set_cons_zero,List.set_cons_succ,aV,aW]
    rfl
   refine aN (i:=18) (N:=some 104) (v:=undef) (a':=?_) #[true,true,true,true,true,true,true,true,true,true,true,true,true,true,true,true,true,true,true,false,false,false,false,false,false,false] rfl rfl aq (fun _ _ _ h=>h) (Or.inr ⟨by rfl,rfl⟩) ?_ ?_
   rotate_left
   ·simp only [Act.put,List.setIfInBounds_toArray,List.set_cons_zero,List.set_cons_succ,aV,aW]
    rfl
   refine aN (i:=19) (N:=some 105) (v:=undef) (a':=?_) #[true,true,true,true,true,true,true,true,true,true,true,true,true,true,true,true,true,true,true,true,false,false,false,false,false,false] rfl rfl aq (fun _ _ _ h=>h) (Or.inr ⟨by rfl,rfl⟩) ?_ ?_
   rotate_left
   ·simp only [Act.put,List.setIfInBounds_toArray,List.set_cons_zero,List.set_cons_succ,aV,aW]
    rfl
   refine aN (i:=20) (N:=some 106) (v:=undef) (a':=?_) #[true,true,true,true,true,true,true,true,true,true,true,true,true,true,true,true,true,true,true,true,true,false,false,false,false,false] rfl rfl aq (fun _ _ _ h=>h) (Or.inr ⟨by rfl,rfl⟩) ?_ ?_
   rotate_left
   ·simp only [Act.put,List.setIfInBounds_toArray,List.set_cons_zero,List.set_cons_succ,aV,aW]
    rfl
   refine aN (i:=21) (N:=some 107) (v:=undef) (a':=?_) #[true,true,true,true,true,true,true,true,true,true,true,true,true,true,true,true,true,true,true,true,true,true,false,false,false,false] rfl rfl aq (fun _ _ _ h=>h) (Or.inr ⟨by rfl,rfl⟩) ?_ ?_
   rotate_left
   ·simp only [Act.put,List.setIfInBounds_toArray,List.set_cons_zero,List.set_cons_succ,aV,aW]
    rfl
   refine aN (i:=22) (N:=some 108) (v:=undef) (a':=?_) #[true,true,true,true,true,true,true,true,true,true,true,true,true,true,true,true,true,true,true,true,true,true,true,false,false,false] rfl rfl aq (fun _ _ _ h=>h) (Or.inr ⟨by rfl,rfl⟩) ?_ ?_
   rotate_left
   ·simp only [Act.put,List.setIfInBounds_toArray,List.set_cons_zero,List.set_cons_succ,aV,aW]
    rfl
   refine aN (i:=23) (N:=some 109) (v:=undef) (a':=?_) #[true,true,true,true,true,true,true,true,true,true,true,true,true,true,true,true,true,true,true,true,true,true,true,true,false,false] rfl rfl aq (fun _ _ _ h=>h) (Or.inr ⟨by rfl,rfl⟩) ?_ ?_
   rotate_left
   ·simp only [Act.put,List.setIfInBounds_toArray,List.set_cons_zero,List.set_cons_succ,aV,aW]
    rfl
   refine aN (i:=24) (N:=some 110) (v:=undef) (a':=?_) #[true,true,true,true,true,true,true,true,true,true,true,true,true,true,true,true,true,true,true,true,true,true,true,true,true,false] rfl rfl aq (fun _ _ _ h=>h) (Or.inr ⟨by rfl,rfl⟩) ?_ ?_
   rotate_left
   ·simp only [Act.put,List.setIfInBounds_toArray,List.set_cons_zero,List.set_cons_succ,aV,aW]
    rfl
   refine aN (i:=25) (N:=some 111) (v:=?_) (a':=?_) #[true,true,true,true,true,true,true,true,true,true,true,true,true,true,true,true,true,true,true,true,true,true,true,true,true,true] rfl rfl aq (fun _ _ _ h=>h) (Or.inl ⟨by rfl,?_⟩) ?_ ?_
   rotate_left
   ·intro w'
    go_simp
    with_reducible rfl
   rotate_left
   ·simp only [Act.put,List.setIfInBounds_toArray,List.set_cons_zero,List.set_cons_succ,aV,aW]
    rfl
   refine nv aq ?_
   go_wp2
   go_ret
   exact ⟨rfl,fA.out.hq.bl,fun h=>by cases h⟩
  ·skip
   have HBO:=ah.mk (dA.calls m.f0 m.f1.f0 A2 c2 m.f1.f1 m.f1.f2.f0 m.f1.f2.f1 m.f1.f2.f2 A6 c6 m.f2 A7 c7 m.f3 m.f4 x.f0 x.f1.f0 B2 d2 x.f1.f1 x.f1.f2.f0 x.f1.f2.f1 x.f1.f2.f2 B6 d6 x.f2 B7 d7 x.f3 x.f4 n _ w4.drew (yZ.out.below fA.out.hq.bl).r2 yZ.out.c2 (yZ.out.below fA.out.hq.bl).r6 yZ.out.c6 (yZ.out.below fA.out.hq.bl).r7 yZ.out.c7 HT2.out UG.out.2.1 HT6.out ZA.out.2.1 HT7.out HS7.out.2.1 (HBF.out rfl))
   cases hn:x.f1.f0
   ·skip
    have HN5:=ah.mk hn
    have HF5:=ah.mk hf
    clear hn hf
    cases b
    ·skip
     obtain rfl:B=false:=Vy.out.trans vR
     refine kS (n:=26) (S:=fun w'=>w'.cell? ⟨gq,0,none⟩=some (.int .i64 n)∧w'.cell? ⟨w.heap.size,4,none⟩=some (.int .i64 m.f0)∧w'.cell? ⟨w.heap.size,5,none⟩=some (.bool m.f1.f0)∧w'.cell? ⟨w.heap.size,6,none⟩=some (.slice A2 m.f1.f1.length c2)∧w'.cell? ⟨w.heap.size,7,none⟩=some (.string m.f1.f2.f0)∧w'.cell? ⟨w.heap.size,8,none⟩=some (.string m.f1.f2.f1)∧w'.cell? ⟨w.heap.size,9,none⟩=some (.bool m.f1.f2.f2)∧w'.cell? ⟨w.heap.size,10,none⟩=some (.slice A6 m.f2.length c6)∧w'.cell? ⟨w.heap.size,11,none⟩=some (.slice A7 m.f3.length c7)∧w'.cell? ⟨w.heap.size,12,none⟩=some (.int .i64 m.f4)∧w'.cell? ⟨gm,i * 9,none⟩=some (.int .i64 x.f0)∧w'.cell? ⟨gm,i * 9 + 1,none⟩=some (.bool x.f1.f0)∧w'.cell? ⟨gm,i * 9 + 2,none⟩=some (.slice B2 x.f1.f1.length d2)∧w'.cell? ⟨gm,i * 9 + 3,none⟩=some (.string x.f1.f2.f0)∧w'.cell? ⟨gm,i * 9 + 4,none⟩=some (.string x.f1.f2.f1)∧w'.cell? ⟨gm,i * 9 + 5,none⟩=some (.bool x.f1.f2.f2)∧w'.cell? ⟨gm,i * 9 + 6,none⟩=some (.slice B6 x.f2.length d6)∧w'.cell? ⟨gm,i * 9 + 7,none⟩=some (.slice B7 x.f3.length d7)∧w'.cell? ⟨gm,i * 9 + 8,none⟩=some (.int .i64 x.f4)) (ds:=[]) #[false,false,false,false,false,false,false,false,false,false,false,false,false,false,false,false,false,false,false,false,false,false,false,false,false,false] aq (by rfl) (by rfl) ⟨fA.out.q0,fA.out.c0,fA.out.c1,fA.out.c2,fA.out.c3,fA.out.c4,fA.out.c5,fA.out.c6,fA.out.c7,fA.out.c8,fA.out.x0,fA.out.x1,fA.out.x2,fA.out.x3,fA.out.x4,fA.out.x5,fA.out.x6,fA.out.x7,fA.out.x8⟩ (fun hHeld=>?_)
     refine aN (i:=0) (N:=some 86) (v:=?_) (a':=?_) #[true,false,false,false,false,false,false,false,false,false,false,false,false,false,false,false,false,false,false,false,false,false,false,false,false,false] rfl rfl aq (fun _ _ _ h=>h) (Or.inl ⟨by rfl,?_⟩) ?_ ?_
     rotate_left
     ·intro w'
      go_simp
      with_reducible rfl
     rotate_left
     ·simp only [Act.put,List.setIfInBounds_toArray,List.set_cons_zero,List.set_cons_succ,aV,aW]
      rfl
     refine aN (i:=1) (N:=some 87) (v:=?_) (a':=?_) #[true,true,false,false,false,false,false,false,false,false,false,false,false,false,false,false,false,false,false,false,false,false,false,false,false,false] rfl rfl aq (fun _ _ _ h=>h) (Or.inl ⟨by rfl,?_⟩) ?_ ?_
     rotate_left
     ·intro w'
      go_simp
      with_reducible rfl
     rotate_left
     ·simp only [Act.put,List.setIfInBounds_toArray,List.set_cons_zero,List.set_cons_succ,aV,aW]
      rfl
     refine aN (i:=2) (N:=some 88) (v:=?_) (a':=?_) #[true,true,true,false,false,false,false,false,false,false,false,false,false,false,false,false,false,false,false,false,false,false,false,false,false,false] rfl rfl aq (fun _ _ _ h=>h) (Or.inl ⟨by rfl,?_⟩) ?_ ?_
     rotate_left
     ·intro w'
      go_simp
      with_reducible rfl
     rotate_left
     ·simp only [Act.put,List.setIfInBounds_toArray,List.set_cons_zero,List.set_cons_succ,aV,aW]
      rfl
     refine aN (i:=3) (N:=some 89) (v:=?_) (a':=?_) #[true,true,true,true,false,false,false,false,false,false,false,false,false,false,false,false,false,false,false,false,false,false,false,false,false,false] rfl rfl aq (fun _ _ _ h=>h) (Or.inl ⟨by rfl,?_⟩) ?_ ?_
     rotate_left
     ·intro w'
      go_simp
      with_reducible rfl
     rotate_left
     ·simp only [Act.put,List.setIfInBounds_toArray,List.set_cons_zero,List.set_cons_succ,aV,aW]
      rfl
     refine aN (i:=4) (N:=some 90) (v:=?_) (a':=?_) #[true,true,true,true,true,false,false,false,false,false,false,false,false,false,false,false,false,false,false,false,false,false,false,false,false,false] rfl rfl aq (fun _ _ _ h=>h) (Or.inl ⟨by rfl,?_⟩) ?_ ?_
     rotate_left
     ·intro w'
      go_simp
      with_reducible rfl
     rotate_left
     ·simp only [Act.put,List.setIfInBounds_toArray,List.set_cons_zero,List.set_cons_succ,aV,aW]
      rfl
     refine aN (i:=6) (N:=some 92) (v:=?_) (a':=?_) #[true,true,true,true,true,false,true,false,false,false,false,false,false,false,false,false,false,false,false,false,false,false,false,false,false,false] rfl rfl aq (fun _ _ _ h=>h) (Or.inl ⟨by rfl,?_⟩) ?_ ?_
     rotate_left
     ·intro w'
      go_simp
      with_reducible rfl
     rotate_left
     ·simp only [Act.put,List.setIfInBounds_toArray,List.set_cons_zero,List.set_cons_succ,aV,aW]
      rfl
     refine aN (i:=7) (N:=some 93) (v:=?_) (a':=?_) #[true,true,true,true,true,false,true,true,false,false,false,false,false,false,false,false,false,false,false,false,false,false,false,false,false,false] rfl rfl aq (fun _ _ _ h=>h) (Or.inl ⟨by rfl,?_⟩) ?_ ?_
     rotate_left
     ·intro w'
      go_simp
      with_reducible rfl
     rotate_left
     ·simp only [Act.put,List.setIfInBounds_toArray,List.set_cons_zero,List.set_cons_succ,aV,aW]
      rfl
     refine aN (i:=9) (N:=some 95) (v:=?_) (a':=?_) #[true,true,true,true,true,false,true,true,false,true,false,false,false,false,false,false,false,false,false,false,false,false,false,false,false,false] rfl rfl aq (fun _ _ _ h=>h) (Or.inl ⟨by rfl,?_⟩) ?_ ?_
     rotate_left
     ·intro w'
      go_simp
      with_reducible rfl
     rotate_left
     ·simp only [Act.put,List.setIfInBounds_toArray,List.set_cons_zero,List.set_cons_succ,aV,aW]
      rfl
     refine aN (i:=10) (N:=some 96) (v:=?_) (a':=?_) #[true,true,true,true,true,false,true,true,false,true,true,false,false,false,false,false,false,false,false,false,false,false,false,false,false,false] rfl rfl aq (fun _ _ _ h=>h) (Or.inl ⟨by rfl,?_⟩) ?_ ?_
     rotate_left
     ·intro w'
      go_simp
      with_reducible rfl
     rotate_left
     ·simp only [Act.put,List.setIfInBounds_toArray,List.set_cons_zero,List.set_cons_succ,aV,aW]
      rfl
     refine aN (i:=11) (N:=some 97) (v:=?_) (a':=?_) #[true,true,true,true,true,false,true,true,false,true,true,true,false,false,false,false,false,false,false,false,false,false,false,false,false,false] rfl rfl aq (fun _ _ _ h=>h) (Or.inl ⟨by rfl,?_⟩) ?_ ?_
     rotate_left
     ·intro w'
      go_simp
      with_reducible rfl
     rotate_left
     ·simp only [Act.put,List.setIfInBounds_toArray,List.set_cons_zero,List.set_cons_succ,aV,aW]
      rfl
     refine fL (i:=5) (N:=some 91) (v:=?_) (a':=?_) #[true,true,true,true,true,true,true,true,false,true,true,true,false,false,false,false,false,false,false,false,false,false,false,false,false,false] rfl rfl aq (fun _ _ _ h=>h) (Or.inl ⟨by rfl,?_⟩) hHeld ?_ ?_
     rotate_left
     ·rintro w' ⟨s0,s1,s2,s3,s4,s5,s6,s7,s8,s9,ER,EU,s12,Fe,Ff,Fg,Fh,Fi,Fj⟩
      go_simp
      with_reducible rfl
     rotate_left
     ·simp only [Act.put,List.setIfInBounds_toArray,List.set_cons_zero,List.set_cons_succ,aV,aW]
      rfl
     refine fL (i:=8) (N:=some 94) (v:=?_) (a':=?_) #[true,true,true,true,true,true,true,true,true,true,true,true,false,false,false,false,false,false,false,false,false,false,false,false,false,false] rfl rfl aq (fun _ _ _ h=>h) (Or.inl ⟨by rfl,?_⟩) hHeld ?_ ?_
     rotate_left
     ·rintro w' ⟨s0,s1,s2,s3,s4,s5,s6,s7,s8,s9,ER,EU,s12,Fe,Ff,Fg,Fh,Fi,Fj⟩
      go_simp
      with_reducible rfl
     rotate_left
     ·simp only [Act.put,List.setIfInBounds_toArray,List.set_cons_zero,List.set_cons_succ,aV,aW]
      rfl
     refine fL (i:=12) (N:=some 98) (v:=?_) (a':=?_) #[true,true,true,true,true,true,true,true,true,true,true,true,true,false,false,false,false,false,false,false,false,false,false,false,false,false] rfl rfl aq (fun _ _ _ h=>h) (Or.inl ⟨by rfl,?_⟩) hHeld ?_ ?_
     rotate_left
     ·rintro w' ⟨s0,s1,s2,s3,s4,s5,s6,s7,s8,s9,ER,EU,s12,Fe,Ff,Fg,Fh,Fi,Fj⟩
      go_simp
      with_reducible rfl
     rotate_left
     ·simp only [Act.put,List.setIfInBounds_toArray,List.set_cons_zero,List.set_cons_succ,aV,aW]
      rfl
     refine nP (i:=13) (N:=some 99) #[true,true,true,true,true,true,true,true,true,true,true,true,true,true,false,false,false,false,false,false,false,false,false,false,false,false] rfl rfl aq bC (fun K hK=>?_)
     refine lF Tryz.func106 aq rfl #[.agg #[.int .i64 m.f0,.bool m.f1.f0,.slice A2 m.f1.f1.length c2,.string m.f1.f2.f0,.string m.f1.f2.f1,.bool m.f1.f2.f2,.slice A6 m.f2.length c6,.slice A7 m.f3.length c7,.int .i64 m.f4],.agg #[.int .i64 x.f0,.bool x.f1.f0,.slice B2 x.f1.f1.length d2,.string x.f1.f2.f0,.string x.f1.f2.f1,.bool x.f1.f2.f2,.slice B6 x.f2.length d6,.slice B7 x.f3.length d7,.int .i64 x.f4],.int .i64 n] (by rfl) rfl rfl tZ ?_
     with_reducible refine (HBO.out).mono ?_
     rintro e w5 ⟨rfl,tE⟩
     refine ⟨_,rfl,?_⟩
     have gh:=ah.mk (fA.out.below tE)
     have Jk:=ah.mk (aA RT.out tE)
     clear tE
     refine hK.out _ _ ⟨gh.out.q0,gh.out.c0,gh.out.c1,gh.out.c2,gh.out.c3,gh.out.c4,gh.out.c5,gh.out.c6,gh.out.c7,gh.out.c8,gh.out.x0,gh.out.x1,gh.out.x2,gh.out.x3,gh.out.x4,gh.out.x5,gh.out.x6,gh.out.x7,gh.out.x8⟩ (fun hHeld=>?_)
     clear hK K
     refine ku (a':=?_) ?_ ?_
     rotate_left
     ·show Act.put _ (some 99) _=_
      simp only [Act.put,List.setIfInBounds_toArray,List.set_cons_zero,List.set_cons_succ,aV,aW]
      rfl
     refine aN (i:=14) (N:=some 100) (v:=?_) (a':=?_) #[true,true,true,true,true,true,true,true,true,true,true,true,true,true,true,false,false,false,false,false,false,false,false,false,false,false] rfl rfl aq (fun _ _ _ h=>h) (Or.inl ⟨by rfl,?_⟩) ?_ ?_
     rotate_left
     ·intro w'
      go_simp
      with_reducible rfl
     rotate_left
     ·simp only [Act.put,List.setIfInBounds_toArray,List.set_cons_zero,List.set_cons_succ,aV,aW]
      rfl
     refine aN (i:=15) (N:=some 101) (v:=?_) (a':=?_) #[true,true,true,true,true,true,true,true,true,true,true,true,true,true,true,true,false,false,false,false,false,false,false,false,false,false] rfl rfl aq (fun _ _ _ h=>h) (Or.inl ⟨by rfl,?_⟩) ?_ ?_
     rotate_left
     ·intro w'
      go_simp
      with_reducible rfl
     rotate_left
     ·simp only [Act.put,List.setIfInBounds_toArray,List.set_cons_zero,List.set_cons_succ,aV,aW]
      rfl
     refine aN (i:=16) (N:=some 102) (v:=?_) (a':=?_) #[true,true,true,true,true,true,true,true,true,true,true,true,true,true,true,true,true,false,false,false,false,false,false,false,false,false] rfl rfl aq (fun _ _ _ h=>h) (Or.inl ⟨by rfl,?_⟩) ?_ ?_
     rotate_left
     ·intro w'
      go_simp
      with_reducible rfl
     rotate_left
     ·simp only [Act.put,List.setIfInBounds_toArray,List.set_cons_zero,List.set_cons_succ,aV,aW]
      rfl
     refine aN (i:=17) (N:=some 103) (v:=undef) (a':=?_) #[true,true,true,true,true,true,true,true,true,true,true,true,true,true,true,true,true,true,false,false,false,false,false,false,false,false] rfl rfl aq (fun _ _ _ h=>h) (Or.inr ⟨by rfl,rfl⟩) ?_ ?_
     rotate_left
     ·simp only [Act.put,List.setIfInBounds_toArray,List.set_cons_zero,List.set_cons_succ,aV,aW]
      rfl
     refine aN (i:=18) (N:=some 104) (v:=undef) (a':=?_) #[true,true,true,true,true,true,true,true,true,true,true,true,true,true,true,true,true,true,true,false,false,false,false,false,false,false] rfl rfl aq (fun _ _ _ h=>h) (Or.inr ⟨by rfl,rfl⟩) ?_ ?_
     rotate_left
     ·simp only [Act.put,List.setIfInBounds_toArray,List.set_cons_zero,List.set_cons_succ,aV,aW]
      rfl
     refine aN (i:=19) (N:=some 105) (v:=undef) (a':=?_) #[true,true,true,true,true,true,true,true,true,true,true,true,true,true,true,true,true,true,true,true,false,false,false,false,false,false] rfl rfl aq (fun _ _ _ h=>h) (Or.inr ⟨by rfl,rfl⟩) ?_ ?_
     rotate_left
     ·simp only [Act.put,List.setIfInBounds_toArray,List.set_cons_zero,List.set_cons_succ,aV,aW]
      rfl
     refine aN (i:=20) (N:=some 106) (v:=undef) (a':=?_) #[true,true,true,true,true,true,true,true,true,true,true,true,true,true,true,true,true,true,true,true,true,false,false,false,false,false] rfl rfl aq (fun _ _ _ h=>h) (Or.inr ⟨by rfl,rfl⟩) ?_ ?_
     rotate_left
     ·simp only [Act.put,List.setIfInBounds_toArray,List.set_cons_zero,List.set_cons_succ,aV,aW]
      rfl
     refine aN (i:=21) (N:=some 107) (v:=undef) (a':=?_) #[true,true,true,true,true,true,true,true,true,true,true,true,true,true,true,true,true,true,true,true,true,true,false,false,false,false] rfl rfl aq (fun _ _ _ h=>h) (Or.inr ⟨by rfl,rfl⟩) ?_ ?_
     rotate_left
     ·simp only [Act.put,List.setIfInBounds_toArray,List.set_cons_zero,List.set_cons_succ,aV,aW]
      rfl
     refine aN (i:=22) (N:=some 108) (v:=undef) (a':=?_) #[true,true,true,true,true,true,true,true,true,true,true,true,true,true,true,true,true,true,true,true,true,true,true,false,false,false] rfl rfl aq (fun _ _ _ h=>h) (Or.inr ⟨by rfl,rfl⟩) ?_ ?_
     rotate_left
     ·simp only [Act.put,List.setIfInBounds_toArray,List.set_cons_zero,List.set_cons_succ,aV,aW]
      rfl
     refine aN (i:=23) (N:=some 109) (v:=undef) (a':=?_) #[true,true,true,true,true,true,true,true,true,true,true,true,true,true,true,true,true,true,true,true,true,true,true,true,false,false] rfl rfl aq (fun _ _ _ h=>h) (Or.inr ⟨by rfl,rfl⟩) ?_ ?_
     rotate_left
     ·simp only [Act.put,List.setIfInBounds_toArray,List.set_cons_zero,List.set_cons_succ,aV,aW]
      rfl
     refine aN (i:=24) (N:=some 110) (v:=undef) (a':=?_) #[true,true,true,true,true,true,true,true,true,true,true,true,true,true,true,true,true,true,true,true,true,true,true,true,true,false] rfl rfl aq (fun _ _ _ h=>h) (Or.inr ⟨by rfl,rfl⟩) ?_ ?_
     rotate_left
     ·simp only [Act.put,List.setIfInBounds_toArray,List.set_cons_zero,List.set_cons_succ,aV,aW]
      rfl
     refine aN (i:=25) (N:=some 111) (v:=?_) (a':=?_) #[true,true,true,true,true,true,true,true,true,true,true,true,true,true,true,true,true,true,true,true,true,true,true,true,true,true] rfl rfl aq (fun _ _ _ h=>h) (Or.inl ⟨by rfl,?_⟩) ?_ ?_
     rotate_left
     ·intro w'
      go_simp
      with_reducible rfl
     rotate_left
     ·simp only [Act.put,List.setIfInBounds_toArray,List.set_cons_zero,List.set_cons_succ,aV,aW]
      rfl
     refine nv aq ?_
     go_wp2
     go_ret
     exact ⟨rfl,gh.out.hq.bl,fun h=>by cases h⟩
    ·skip
     refine kS (n:=26) (S:=fun w'=>w'.cell? ⟨gq,0,none⟩=some (.int .i64 n)∧w'.cell? ⟨w.heap.size,4,none⟩=some (.int .i64 m.f0)∧w'.cell? ⟨w.heap.size,5,none⟩=some (.bool m.f1.f0)∧w'.cell? ⟨w.heap.size,6,none⟩=some (.slice A2 m.f1.f1.length c2)∧w'.cell? ⟨w.heap.size,7,none⟩=some (.string m.f1.f2.f0)∧w'.cell? ⟨w.heap.size,8,none⟩=some (.string m.f1.f2.f1)∧w'.cell? ⟨w.heap.size,9,none⟩=some (.bool m.f1.f2.f2)∧w'.cell? ⟨w.heap.size,10,none⟩=some (.slice A6 m.f2.length c6)∧w'.cell? ⟨w.heap.size,11,none⟩=some (.slice A7 m.f3.length c7)∧w'.cell? ⟨w.heap.size,12,none⟩=some (.int .i64 m.f4)∧w'.cell? ⟨gm,i * 9,none⟩=some (.int .i64 x.f0)∧w'.cell? ⟨gm,i * 9 + 1,none⟩=some (.bool x.f1.f0)∧w'.cell? ⟨gm,i * 9 + 2,none⟩=some (.slice B2 x.f1.f1.length d2)∧w'.cell? ⟨gm,i * 9 + 3,none⟩=some (.string x.f1.f2.f0)∧w'.cell? ⟨gm,i * 9 + 4,none⟩=some (.string x.f1.f2.f1)∧w'.cell? ⟨gm,i * 9 + 5,none⟩=some (.bool x.f1.f2.f2)∧w'.cell? ⟨gm,i * 9 + 6,none⟩=some (.slice B6 x.f2.length d6)∧w'.cell? ⟨gm,i * 9 + 7,none⟩=some (.slice B7 x.f3.length d7)∧w'.cell? ⟨gm,i * 9 + 8,none⟩=some (.int .i64 x.f4)) (ds:=[]) #[false,false,false,false,false,false,false,false,false,false,false,false,false,false,false,false,false,false,false,false,false,false,false,false,false,false] aq (by rfl) (by rfl) ⟨fA.out.q0,fA.out.c0,fA.out.c1,fA.out.c2,fA.out.c3,fA.out.c4,fA.out.c5,fA.out.c6,fA.out.c7,fA.out.c8,fA.out.x0,fA.out.x1,fA.out.x2,fA.out.x3,fA.out.x4,fA.out.x5,fA.out.x6,fA.out.x7,fA.out.x8⟩ (fun hHeld=>?_)
     refine aN (i:=0) (N:=some 86) (v:=?_) (a':=?_) #[true,false,false,false,false,false,false,false,false,false,false,false,false,false,false,false,false,false,false,false,false,false,false,false,false,false] rfl rfl aq (fun _ _ _ h=>h) (Or.inl ⟨by rfl,?_⟩) ?_ ?_
     rotate_left
     ·intro w'
      go_simp
      with_reducible rfl
     rotate_left
     ·simp only [Act.put,List.setIfInBounds_toArray,List.set_cons_zero,List.set_cons_succ,aV,aW]
      rfl
     refine aN (i:=1) (N:=some 87) (v:=?_) (a':=?_) #[true,true,false,false,false,false,false,false,false,false,false,false,false,false,false,false,false,false,false,false,false,false,false,false,false,false] rfl rfl aq (fun _ _ _ h=>h) (Or.inl ⟨by rfl,?_⟩) ?_ ?_
     rotate_left
     ·intro w'
      go_simp
      with_reducible rfl
     rotate_left
     ·simp only [Act.put,List.setIfInBounds_toArray,List.set_cons_zero,List.set_cons_succ,aV,aW]
      rfl
     refine aN (i:=2) (N:=some 88) (v:=?_) (a':=?_) #[true,true,true,false,false,false,false,false,false,false,false,false,false,false,false,false,false,false,false,false,false,false,false,false,false,false] rfl rfl aq (fun _ _ _ h=>h) (Or.inl ⟨by rfl,?_⟩) ?_ ?_
     rotate_left
     ·intro w'
      go_simp
      with_reducible rfl
     rotate_left
     ·simp only [Act.put,List.setIfInBounds_toArray,List.set_cons_zero,List.set_cons_succ,aV,aW]
      rfl
     refine aN (i:=3) (N:=some 89) (v:=?_) (a':=?_) #[true,true,true,true,false,false,false,false,false,false,false,false,false,false,false,false,false,false,false,false,false,false,false,false,false,false] rfl rfl aq (fun _ _ _ h=>h) (Or.inl ⟨by rfl,?_⟩) ?_ ?_
     rotate_left
     ·intro w'
      go_simp
      with_reducible rfl
     rotate_left
     ·simp only [Act.put,List.setIfInBounds_toArray,List.set_cons_zero,List.set_cons_succ,aV,aW]
      rfl
     refine aN (i:=4) (N:=some 90) (v:=?_) (a':=?_) #[true,true,true,true,true,false,false,false,false,false,false,false,false,false,false,false,false,false,false,false,false,false,false,false,false,false] rfl rfl aq (fun _ _ _ h=>h) (Or.inl ⟨by rfl,?_⟩) ?_ ?_
     rotate_left
     ·intro w'
      go_simp
      with_reducible rfl
     rotate_left
     ·simp only [Act.put,List.setIfInBounds_toArray,List.set_cons_zero,List.set_cons_succ,aV,aW]
      rfl
     refine aN (i:=6) (N:=some 92) (v:=?_) (a':=?_) #[true,true,true,true,true,false,true,false,false,false,false,false,false,false,false,false,false,false,false,false,false,false,false,false,false,false] rfl rfl aq (fun _ _ _ h=>h) (Or.inl ⟨by rfl,?_⟩) ?_ ?_
     rotate_left
     ·intro w'
      go_simp
      with_reducible rfl
     rotate_left
     ·simp only [Act.put,List.setIfInBounds_toArray,List.set_cons_zero,List.set_cons_succ,aV,aW]
      rfl
     refine aN (i:=7) (N:=some 93) (v:=?_) (a':=?_) #[true,true,true,true,true,false,true,true,false,false,false,false,false,false,false,false,false,false,false,false,false,false,false,false,false,false] rfl rfl aq (fun _ _ _ h=>h) (Or.inl ⟨by rfl,?_⟩) ?_ ?_
     rotate_left
     ·intro w'
      go_simp
      with_reducible rfl
     rotate_left
     ·simp only [Act.put,List.setIfInBounds_toArray,List.set_cons_zero,List.set_cons_succ,aV,aW]
      rfl
     refine aN (i:=9) (N:=some 95) (v:=?_) (a':=?_) #[true,true,true,true,true,false,true,true,false,true,false,false,false,false,false,false,false,false,false,false,false,false,false,false,false,false] rfl rfl aq (fun _ _ _ h=>h) (Or.inl ⟨by rfl,?_⟩) ?_ ?_
     rotate_left
     ·intro w'
      go_simp
      with_reducible rfl
     rotate_left
     ·simp only [Act.put,List.setIfInBounds_toArray,List.set_cons_zero,List.set_cons_succ,aV,aW]
      rfl
     refine aN (i:=10) (N:=some 96) (v:=?_) (a':=?_) #[true,true,true,true,true,false,true,true,false,true,true,false,false,false,false,false,false,false,false,false,false,false,false,false,false,false] rfl rfl aq (fun _ _ _ h=>h) (Or.inl ⟨by rfl,?_⟩) ?_ ?_
     rotate_left
     ·intro w'
      go_simp
      with_reducible rfl
     rotate_left
     ·simp only [Act.put,List.setIfInBounds_toArray,List.set_cons_zero,List.set_cons_succ,aV,aW]
      rfl
     refine aN (i:=11) (N:=some 97) (v:=?_) (a':=?_) #[true,true,true,true,true,false,true,true,false,true,true,true,false,false,false,false,false,false,false,false,false,false,false,false,false,false] rfl rfl aq (fun _ _ _ h=>h) (Or.inl ⟨by rfl,?_⟩) ?_ ?_
     rotate_left
     ·intro w'
      go_simp
      with_reducible rfl
     rotate_left
     ·simp only [Act.put,List.setIfInBounds_toArray,List.set_cons_zero,List.set_cons_succ,aV,aW]
      rfl
     refine fL (i:=5) (N:=some 91) (v:=?_) (a':=?_) #[true,true,true,true,true,true,true,true,false,true,true,true,false,false,false,false,false,false,false,false,false,false,false,false,false,false] rfl rfl aq (fun _ _ _ h=>h) (Or.inl ⟨by rfl,?_⟩) hHeld ?_ ?_
     rotate_left
     ·rintro w' ⟨s0,s1,s2,s3,s4,s5,s6,s7,s8,s9,ER,EU,s12,Fe,Ff,Fg,Fh,Fi,Fj⟩
      go_simp
      with_reducible rfl
     rotate_left
     ·simp only [Act.put,List.setIfInBounds_toArray,List.set_cons_zero,List.set_cons_succ,aV,aW]
      rfl
     refine fL (i:=8) (N:=some 94) (v:=?_) (a':=?_) #[true,true,true,true,true,true,true,true,true,true,true,true,false,false,false,false,false,false,false,false,false,false,false,false,false,false] rfl rfl aq (fun _ _ _ h=>h) (Or.inl ⟨by rfl,?_⟩) hHeld ?_ ?_
     rotate_left
     ·rintro w' ⟨s0,s1,s2,s3,s4,s5,s6,s7,s8,s9,ER,EU,s12,Fe,Ff,Fg,Fh,Fi,Fj⟩
      go_simp
      with_reducible rfl
     rotate_left
     ·simp only [Act.put,List.setIfInBounds_toArray,List.set_cons_zero,List.set_cons_succ,aV,aW]
      rfl
     refine fL (i:=12) (N:=some 98) (v:=?_) (a':=?_) #[true,true,true,true,true,true,true,true,true,true,true,true,true,false,false,false,false,false,false,false,false,false,false,false,false,false] rfl rfl aq (fun _ _ _ h=>h) (Or.inl ⟨by rfl,?_⟩) hHeld ?_ ?_
     rotate_left
     ·rintro w' ⟨s0,s1,s2,s3,s4,s5,s6,s7,s8,s9,ER,EU,s12,Fe,Ff,Fg,Fh,Fi,Fj⟩
      go_simp
      with_reducible rfl
     rotate_left
     ·simp only [Act.put,List.setIfInBounds_toArray,List.set_cons_zero,List.set_cons_succ,aV,aW]
      rfl
     refine nP (i:=13) (N:=some 99) #[true,true,true,true,true,true,true,true,true,true,true,true,true,true,false,false,false,false,false,false,false,false,false,false,false,false] rfl rfl aq bC (fun K hK=>?_)
     refine lF Tryz.func106 aq rfl #[.agg #[.int .i64 m.f0,.bool m.f1.f0,.slice A2 m.f1.f1.length c2,.string m.f1.f2.f0,.string m.f1.f2.f1,.bool m.f1.f2.f2,.slice A6 m.f2.length c6,.slice A7 m.f3.length c7,.int .i64 m.f4],.agg #[.int .i64 x.f0,.bool x.f1.f0,.slice B2 x.f1.f1.length d2,.string x.f1.f2.f0,.string x.f1.f2.f1,.bool x.f1.f2.f2,.slice B6 x.f2.length d6,.slice B7 x.f3.length d7,.int .i64 x.f4],.int .i64 n] (by rfl) rfl rfl tZ ?_
     with_reducible refine (HBO.out).mono ?_
     rintro e w5 ⟨rfl,tE⟩
     refine ⟨_,rfl,?_⟩
     have gh:=ah.mk (fA.out.below tE)
     have Jk:=ah.mk (aA RT.out tE)
     clear tE
     refine hK.out _ _ ⟨gh.out.q0,gh.out.c0,gh.out.c1,gh.out.c2,gh.out.c3,gh.out.c4,gh.out.c5,gh.out.c6,gh.out.c7,gh.out.c8,gh.out.x0,gh.out.x1,gh.out.x2,gh.out.x3,gh.out.x4,gh.out.x5,gh.out.x6,gh.out.x7,gh.out.x8⟩ (fun hHeld=>?_)
     clear hK K
     refine ku (a':=?_) ?_ ?_
     rotate_left
     ·show Act.put _ (some 99) _=_
      simp only [Act.put,List.setIfInBounds_toArray,List.set_cons_zero,List.set_cons_succ,aV,aW]
      rfl
     refine aN (i:=14) (N:=some 100) (v:=?_) (a':=?_) #[true,true,true,true,true,true,true,true,true,true,true,true,true,true,true,false,false,false,false,false,false,false,false,false,false,false] rfl rfl aq (fun _ _ _ h=>h) (Or.inl ⟨by rfl,?_⟩) ?_ ?_
     rotate_left
     ·intro w'
      go_simp
      with_reducible rfl
     rotate_left
     ·simp only [Act.put,List.setIfInBounds_toArray,List.set_cons_zero,List.set_cons_succ,aV,aW]
      rfl
     refine aN (i:=15) (N:=some 101) (v:=?_) (a':=?_) #[true,true,true,true,true,true,true,true,true,true,true,true,true,true,true,true,false,false,false,false,false,false,false,false,false,false] rfl rfl aq (fun _ _ _ h=>h) (Or.inl ⟨by rfl,?_⟩) ?_ ?_
     rotate_left
     ·intro w'
      go_simp
      with_reducible rfl
     rotate_left
     ·simp only [Act.put,List.setIfInBounds_toArray,List.set_cons_zero,List.set_cons_succ,aV,aW]
      rfl
     refine aN (i:=16) (N:=some 102) (v:=?_) (a':=?_) #[true,true,true,true,true,true,true,true,true,true,true,true,true,true,true,true,true,false,false,false,false,false,false,false,false,false] rfl rfl aq (fun _ _ _ h=>h) (Or.inl ⟨by rfl,?_⟩) ?_ ?_
     rotate_left
     ·intro w'
      go_simp
      with_reducible rfl
     rotate_left
     ·simp only [Act.put,List.setIfInBounds_toArray,List.set_cons_zero,List.set_cons_succ,aV,aW]
      rfl
     refine aN (i:=17) (N:=some 103) (v:=?_) (a':=?_) #[true,true,true,true,true,true,true,true,true,true,true,true,true,true,true,true,true,true,false,false,false,false,false,false,false,false] rfl rfl aq (fun _ _ _ h=>h) (Or.inl ⟨by rfl,?_⟩) ?_ ?_
     rotate_left
     ·intro w'
      go_simp
      with_reducible rfl
     rotate_left
     ·simp only [Act.put,List.setIfInBounds_toArray,List.set_cons_zero,List.set_cons_succ,aV,aW]
      rfl
     refine aN (i:=18) (N:=some 104) (v:=?_) (a':=?_) #[true,true,true,true,true,true,true,true,true,true,true,true,true,true,true,true,true,true,true,false,false,false,false,false,false,false] rfl rfl aq (fun _ _ _ h=>h) (Or.inl ⟨by rfl,?_⟩) ?_ ?_
     rotate_left
     ·intro w'
      go_simp
      with_reducible rfl
     rotate_left
     ·simp only [Act.put,List.setIfInBounds_toArray,List.set_cons_zero,List.set_cons_succ,aV,aW]
      rfl
     refine aN (i:=19) (N:=some 105) (v:=?_) (a':=?_) #[true,true,true,true,true,true,true,true,true,true,true,true,true,true,true,true,true,true,true,true,false,false,false,false,false,false] rfl rfl aq (fun _ _ _ h=>h) (Or.inl ⟨by rfl,?_⟩) ?_ ?_
     rotate_left
     ·intro w'
      go_simp
      with_reducible rfl
     rotate_left
     ·simp only [Act.put,List.setIfInBounds_toArray,List.set_cons_zero,List.set_cons_succ,aV,aW]
      rfl
     refine aN (i:=20) (N:=some 106) (v:=undef) (a':=?_) #[true,true,true,true,true,true,true,true,true,true,true,true,true,true,true,true,true,true,true,true,true,false,false,false,false,false] rfl rfl aq (fun _ _ _ h=>h) (Or.inr ⟨by rfl,rfl⟩) ?_ ?_
     rotate_left
     ·simp only [Act.put,List.setIfInBounds_toArray,List.set_cons_zero,List.set_cons_succ,aV,aW]
      rfl
     refine aN (i:=21) (N:=some 107) (v:=undef) (a':=?_) #[true,true,true,true,true,true,true,true,true,true,true,true,true,true,true,true,true,true,true,true,true,true,false,false,false,false] rfl rfl aq (fun _ _ _ h=>h) (Or.inr ⟨by rfl,rfl⟩) ?_ ?_
     rotate_left
     ·simp only [Act.put,List.setIfInBounds_toArray,List.set_cons_zero,List.set_cons_succ,aV,aW]
      rfl
     refine aN (i:=22) (N:=some 108) (v:=undef) (a':=?_) #[true,true,true,true,true,true,true,true,true,true,true,true,true,true,true,true,true,true,true,true,true,true,true,false,false,false] rfl rfl aq (fun _ _ _ h=>h) (Or.inr ⟨by rfl,rfl⟩) ?_ ?_
     rotate_left
     ·simp only [Act.put,List.setIfInBounds_toArray,List.set_cons_zero,List.set_cons_succ,aV,aW]
      rfl
     refine aN (i:=23) (N:=some 109) (v:=undef) (a':=?_) #[true,true,true,true,true,true,true,true,true,true,true,true,true,true,true,true,true,true,true,true,true,true,true,true,false,false] rfl rfl aq (fun _ _ _ h=>h) (Or.inr ⟨by rfl,rfl⟩) ?_ ?_
     rotate_left
     ·simp only [Act.put,List.setIfInBounds_toArray,List.set_cons_zero,List.set_cons_succ,aV,aW]
      rfl
     refine aN (i:=24) (N:=some 110) (v:=?_) (a':=?_) #[true,true,true,true,true,true,true,true,true,true,true,true,true,true,true,true,true,true,true,true,true,true,true,true,true,false] rfl rfl aq (fun _ _ _ h=>h) (Or.inl ⟨by rfl,?_⟩) ?_ ?_
     rotate_left
     ·intro w'
      go_simp
      with_reducible rfl
     rotate_left
     ·simp only [Act.put,List.setIfInBounds_toArray,List.set_cons_zero,List.set_cons_succ,aV,aW]
      rfl
     refine aN (i:=25) (N:=some 111) (v:=?_) (a':=?_) #[true,true,true,true,true,true,true,true,true,true,true,true,true,true,true,true,true,true,true,true,true,true,true,true,true,true] rfl rfl aq (fun _ _ _ h=>h) (Or.inl ⟨by rfl,?_⟩) ?_ ?_
     rotate_left
     ·intro w'
      go_simp
      with_reducible rfl
     rotate_left
     ·simp only [Act.put,List.setIfInBounds_toArray,List.set_cons_zero,List.set_cons_succ,aV,aW]
      rfl
     refine nv aq ?_
     have p1:=gh.out.q1
     go_wp2_with (first|(go_at_call 107;refine (AV gh.out.hq HDT.out HLN.out).mono ?_;rintro e w7 ⟨rfl,hs7,hb7,PK⟩;have PL:=fM gh.out.hq.hq PK (fun e=>HNE.out (Option.some.inj e).symm);have qV:=fM Jk.out PK (Kd.Mk gh.out.hq.hs Jk.out bC);have p7:w7.cell? ⟨gq,1,none⟩=some (.slice (some ⟨gm,0,none⟩) ms.length cv):=(af PL 1).trans rfl;have f7:=aa PL 1;have k0_ :=(af qV 0).trans rfl;have k1_ :=(af qV 1).trans rfl;have k2_ :=(af qV 2).trans rfl;have k3_ :=(af qV 3).trans rfl;have k4_ :=(af qV 4).trans rfl;have k5_ :=(af qV 5).trans rfl;have k6_ :=(af qV 6).trans rfl;have k7_ :=(af qV 7).trans rfl;have k8_ :=(af qV 8).trans rfl;have k9_ :=(af qV 9).trans rfl;have ahV:=(af qV 10).trans rfl;have ahW:=(af qV 11).trans rfl;have ahX:=(af qV 12).trans rfl;have Vz:=ah.mk (QW.put hb7 PL gh.out.hq.ge hs7);clear hs7 hb7 PK PL qV)|(go_at_call 103;refine (FD.calls m A2 c2 A6 c6 A7 c7 gq n _ (ms.eraseIdx i) w0 _ Vz.out (yZ.out.below Vz.out.bl).r2 yZ.out.c2 (yZ.out.below Vz.out.bl).r6 yZ.out.c6 (yZ.out.below Vz.out.bl).r7 yZ.out.c7 HOW.out ?ahY).mono ?_;(case ahY=>rw [HHL.out];have:=HLN.out;have:=HDT.out;omega);rintro e w8 ⟨rfl,v8,hv8⟩;have HV8:=ah.mk hv8;clear hv8))
     obtain rfl:B=true:=Vy.out.trans vR
     obtain rfl:N=wrap64 (m.f0 + 1):=HNV.out.trans wW
     obtain rfl:M=ms.eraseIdx i ++ [m]:=HMV.out.trans wW
     go_ret
     exact ⟨rfl,HV8.out.bl,fun _ =>⟨_,HV8.out⟩⟩
   ·skip
    have HN5:=ah.mk hn
    have HF5:=ah.mk hf
    clear hn hf
    cases b
    ·skip
     refine kS (n:=26) (S:=fun w'=>w'.cell? ⟨gq,0,none⟩=some (.int .i64 n)∧w'.cell? ⟨w.heap.size,4,none⟩=some (.int .i64 m.f0)∧w'.cell? ⟨w.heap.size,5,none⟩=some (.bool m.f1.f0)∧w'.cell? ⟨w.heap.size,6,none⟩=some (.slice A2 m.f1.f1.length c2)∧w'.cell? ⟨w.heap.size,7,none⟩=some (.string m.f1.f2.f0)∧w'.cell? ⟨w.heap.size,8,none⟩=some (.string m.f1.f2.f1)∧w'.cell? ⟨w.heap.size,9,none⟩=some (.bool m.f1.f2.f2)∧w'.cell? ⟨w.heap.size,10,none⟩=some (.slice A6 m.f2.length c6)∧w'.cell? ⟨w.heap.size,11,none⟩=some (.slice A7 m.f3.length c7)∧w'.cell? ⟨w.heap.size,12,none⟩=some (.int .i64 m.f4)∧w'.cell? ⟨gm,i * 9,none⟩=some (.int .i64 x.f0)∧w'.cell? ⟨gm,i * 9 + 1,none⟩=some (.bool x.f1.f0)∧w'.cell? ⟨gm,i * 9 + 2,none⟩=some (.slice B2 x.f1.f1.length d2)∧w'.cell? ⟨gm,i * 9 + 3,none⟩=some (.string x.f1.f2.f0)∧w'.cell? ⟨gm,i * 9 + 4,none⟩=some (.string x.f1.f2.f1)∧w'.cell? ⟨gm,i * 9 + 5,none⟩=some (.bool x.f1.f2.f2)∧w'.cell? ⟨gm,i * 9 + 6,none⟩=some (.slice B6 x.f2.length d6)∧w'.cell? ⟨gm,i * 9 + 7,none⟩=some (.slice B7 x.f3.length d7)∧w'.cell? ⟨gm,i * 9 + 8,none⟩=some (.int .i64 x.f4)) (ds:=[]) #[false,false,false,false,false,false,false,false,false,false,false,false,false,false,false,false,false,false,false,false,false,false,false,false,false,false] aq (by rfl) (by rfl) ⟨fA.out.q0,fA.out.c0,fA.out.c1,fA.out.c2,fA.out.c3,fA.out.c4,fA.out.c5,fA.out.c6,fA.out.c7,fA.out.c8,fA.out.x0,fA.out.x1,fA.out.x2,fA.out.x3,fA.out.x4,fA.out.x5,fA.out.x6,fA.out.x7,fA.out.x8⟩ (fun hHeld=>?_)
     refine aN (i:=0) (N:=some 86) (v:=?_) (a':=?_) #[true,false,false,false,false,false,false,false,false,false,false,false,false,false,false,false,false,false,false,false,false,false,false,false,false,false] rfl rfl aq (fun _ _ _ h=>h) (Or.inl ⟨by rfl,?_⟩) ?_ ?_
     rotate_left
     ·intro w'
      go_simp
      with_reducible rfl
     rotate_left
     ·simp only [Act.put,List.setIfInBounds_toArray,List.set_cons_zero,List.set_cons_succ,aV,aW]
      rfl
     refine aN (i:=1) (N:=some 87) (v:=?_) (a':=?_) #[true,true,false,false,false,false,false,false,false,false,false,false,false,false,false,false,false,false,false,false,false,false,false,false,false,false] rfl rfl aq (fun _ _ _ h=>h) (Or.inl ⟨by rfl,?_⟩) ?_ ?_
     rotate_left
     ·intro w'
      go_simp
      with_reducible rfl
     rotate_left
     ·simp only [Act.put,List.setIfInBounds_toArray,List.set_cons_zero,List.set_cons_succ,aV,aW]
      rfl
     refine aN (i:=2) (N:=some 88) (v:=?_) (a':=?_) #[true,true,true,false,false,false,false,false,false,false,false,false,false,false,false,false,false,false,false,false,false,false,false,false,false,false] rfl rfl aq (fun _ _ _ h=>h) (Or.inl ⟨by rfl,?_⟩) ?_ ?_
     rotate_left
     ·intro w'
      go_simp
      with_reducible rfl
     rotate_left
     ·simp only [Act.put,List.setIfInBounds_toArray,List.set_cons_zero,List.set_cons_succ,aV,aW]
      rfl
     refine aN (i:=3) (N:=some 89) (v:=?_) (a':=?_) #[true,true,true,true,false,false,false,false,false,false,false,false,false,false,false,false,false,false,false,false,false,false,false,false,false,false] rfl rfl aq (fun _ _ _ h=>h) (Or.inl ⟨by rfl,?_⟩) ?_ ?_
     rotate_left
     ·intro w'
      go_simp
      with_reducible rfl
     rotate_left
     ·simp only [Act.put,List.setIfInBounds_toArray,List.set_cons_zero,List.set_cons_succ,aV,aW]
      rfl
     refine aN (i:=4) (N:=some 90) (v:=?_) (a':=?_) #[true,true,true,true,true,false,false,false,false,false,false,false,false,false,false,false,false,false,false,false,false,false,false,false,false,false] rfl rfl aq (fun _ _ _ h=>h) (Or.inl ⟨by rfl,?_⟩) ?_ ?_
     rotate_left
     ·intro w'
      go_simp
      with_reducible rfl
     rotate_left
     ·simp only [Act.put,List.setIfInBounds_toArray,List.set_cons_zero,List.set_cons_succ,aV,aW]
      rfl
     refine aN (i:=6) (N:=some 92) (v:=?_) (a':=?_) #[true,true,true,true,true,false,true,false,false,false,false,false,false,false,false,false,false,false,false,false,false,false,false,false,false,false] rfl rfl aq (fun _ _ _ h=>h) (Or.inl ⟨by rfl,?_⟩) ?_ ?_
     rotate_left
     ·intro w'
      go_simp
      with_reducible rfl
     rotate_left
     ·simp only [Act.put,List.setIfInBounds_toArray,List.set_cons_zero,List.set_cons_succ,aV,aW]
      rfl
     refine aN (i:=7) (N:=some 93) (v:=?_) (a':=?_) #[true,true,true,true,true,false,true,true,false,false,false,false,false,false,false,false,false,false,false,false,false,false,false,false,false,false] rfl rfl aq (fun _ _ _ h=>h) (Or.inl ⟨by rfl,?_⟩) ?_ ?_
     rotate_left
     ·intro w'
      go_simp
      with_reducible rfl
     rotate_left
     ·simp only [Act.put,List.setIfInBounds_toArray,List.set_cons_zero,List.set_cons_succ,aV,aW]
      rfl
     refine aN (i:=9) (N:=some 95) (v:=?_) (a':=?_) #[true,true,true,true,true,false,true,true,false,true,false,false,false,false,false,false,false,false,false,false,false,false,false,false,false,false] rfl rfl aq (fun _ _ _ h=>h) (Or.inl ⟨by rfl,?_⟩) ?_ ?_
     rotate_left
     ·intro w'
      go_simp
      with_reducible rfl
     rotate_left
     ·simp only [Act.put,List.setIfInBounds_toArray,List.set_cons_zero,List.set_cons_succ,aV,aW]
      rfl
     refine aN (i:=10) (N:=some 96) (v:=?_) (a':=?_) #[true,true,true,true,true,false,true,true,false,true,true,false,false,false,false,false,false,false,false,false,false,false,false,false,false,false] rfl rfl aq (fun _ _ _ h=>h) (Or.inl ⟨by rfl,?_⟩) ?_ ?_
     rotate_left
     ·intro w'
      go_simp
      with_reducible rfl
     rotate_left
     ·simp only [Act.put,List.setIfInBounds_toArray,List.set_cons_zero,List.set_cons_succ,aV,aW]
      rfl
     refine aN (i:=11) (N:=some 97) (v:=?_) (a':=?_) #[true,true,true,true,true,false,true,true,false,true,true,true,false,false,false,false,false,false,false,false,false,false,false,false,false,false] rfl rfl aq (fun _ _ _ h=>h) (Or.inl ⟨by rfl,?_⟩) ?_ ?_
     rotate_left
     ·intro w'
      go_simp
      with_reducible rfl
     rotate_left
     ·simp only [Act.put,List.setIfInBounds_toArray,List.set_cons_zero,List.set_cons_succ,aV,aW]
      rfl
     refine fL (i:=5) (N:=some 91) (v:=?_) (a':=?_) #[true,true,true,true,true,true,true,true,false,true,true,true,false,false,false,false,false,false,false,false,false,false,false,false,false,false] rfl rfl aq (fun _ _ _ h=>h) (Or.inl ⟨by rfl,?_⟩) hHeld ?_ ?_
     rotate_left
     ·rintro w' ⟨s0,s1,s2,s3,s4,s5,s6,s7,s8,s9,ER,EU,s12,Fe,Ff,Fg,Fh,Fi,Fj⟩
      go_simp
      with_reducible rfl
     rotate_left
     ·simp only [Act.put,List.setIfInBounds_toArray,List.set_cons_zero,List.set_cons_succ,aV,aW]
      rfl
     refine fL (i:=8) (N:=some 94) (v:=?_) (a':=?_) #[true,true,true,true,true,true,true,true,true,true,true,true,false,false,false,false,false,false,false,false,false,false,false,false,false,false] rfl rfl aq (fun _ _ _ h=>h) (Or.inl ⟨by rfl,?_⟩) hHeld ?_ ?_
     rotate_left
     ·rintro w' ⟨s0,s1,s2,s3,s4,s5,s6,s7,s8,s9,ER,EU,s12,Fe,Ff,Fg,Fh,Fi,Fj⟩
      go_simp
      with_reducible rfl
     rotate_left
     ·simp only [Act.put,List.setIfInBounds_toArray,List.set_cons_zero,List.set_cons_succ,aV,aW]
      rfl
     refine fL (i:=12) (N:=some 98) (v:=?_) (a':=?_) #[true,true,true,true,true,true,true,true,true,true,true,true,true,false,false,false,false,false,false,false,false,false,false,false,false,false] rfl rfl aq (fun _ _ _ h=>h) (Or.inl ⟨by rfl,?_⟩) hHeld ?_ ?_
     rotate_left
     ·rintro w' ⟨s0,s1,s2,s3,s4,s5,s6,s7,s8,s9,ER,EU,s12,Fe,Ff,Fg,Fh,Fi,Fj⟩
      go_simp
      with_reducible rfl
     rotate_left
     ·simp only [Act.put,List.setIfInBounds_toArray,List.set_cons_zero,List.set_cons_succ,aV,aW]
      rfl
     refine nP (i:=13) (N:=some 99) #[true,true,true,true,true,true,true,true,true,true,true,true,true,true,false,false,false,false,false,false,false,false,false,false,false,false] rfl rfl aq bC (fun K hK=>?_)
     refine lF Tryz.func106 aq rfl #[.agg #[.int .i64 m.f0,.bool m.f1.f0,.slice A2 m.f1.f1.length c2,.string m.f1.f2.f0,.string m.f1.f2.f1,.bool m.f1.f2.f2,.slice A6 m.f2.length c6,.slice A7 m.f3.length c7,.int .i64 m.f4],.agg #[.int .i64 x.f0,.bool x.f1.f0,.slice B2 x.f1.f1.length d2,.string x.f1.f2.f0,.string x.f1.f2.f1,.bool x.f1.f2.f2,.slice B6 x.f2.length d6,.slice B7 x.f3.length d7,.int .i64 x.f4],.int .i64 n] (by rfl) rfl rfl tZ ?_
     with_reducible refine (HBO.out).mono ?_
     rintro e w5 ⟨rfl,tE⟩
     refine ⟨_,rfl,?_⟩
     have gh:=ah.mk (fA.out.below tE)
     have Jk:=ah.mk (aA RT.out tE)
     clear tE
     refine hK.out _ _ ⟨gh.out.q0,gh.out.c0,gh.out.c1,gh.out.c2,gh.out.c3,gh.out.c4,gh.out.c5,gh.out.c6,gh.out.c7,gh.out.c8,gh.out.x0,gh.out.x1,gh.out.x2,gh.out.x3,gh.out.x4,gh.out.x5,gh.out.x6,gh.out.x7,gh.out.x8⟩ (fun hHeld=>?_)
     clear hK K
     refine ku (a':=?_) ?_ ?_
     rotate_left
     ·show Act.put _ (some 99) _=_
      simp only [Act.put,List.setIfInBounds_toArray,List.set_cons_zero,List.set_cons_succ,aV,aW]
      rfl
     refine aN (i:=14) (N:=some 100) (v:=?_) (a':=?_) #[true,true,true,true,true,true,true,true,true,true,true,true,true,true,true,false,false,false,false,false,false,false,false,false,false,false] rfl rfl aq (fun _ _ _ h=>h) (Or.inl ⟨by rfl,?_⟩) ?_ ?_
     rotate_left
     ·intro w'
      go_simp
      with_reducible rfl
     rotate_left
     ·simp only [Act.put,List.setIfInBounds_toArray,List.set_cons_zero,List.set_cons_succ,aV,aW]
      rfl
     refine aN (i:=15) (N:=some 101) (v:=?_) (a':=?_) #[true,true,true,true,true,true,true,true,true,true,true,true,true,true,true,true,false,false,false,false,false,false,false,false,false,false] rfl rfl aq (fun _ _ _ h=>h) (Or.inl ⟨by rfl,?_⟩) ?_ ?_
     rotate_left
     ·intro w'
      go_simp
      with_reducible rfl
     rotate_left
     ·simp only [Act.put,List.setIfInBounds_toArray,List.set_cons_zero,List.set_cons_succ,aV,aW]
      rfl
     refine aN (i:=16) (N:=some 102) (v:=?_) (a':=?_) #[true,true,true,true,true,true,true,true,true,true,true,true,true,true,true,true,true,false,false,false,false,false,false,false,false,false] rfl rfl aq (fun _ _ _ h=>h) (Or.inl ⟨by rfl,?_⟩) ?_ ?_
     rotate_left
     ·intro w'
      go_simp
      with_reducible rfl
     rotate_left
     ·simp only [Act.put,List.setIfInBounds_toArray,List.set_cons_zero,List.set_cons_succ,aV,aW]
      rfl
     refine aN (i:=17) (N:=some 103) (v:=?_) (a':=?_) #[true,true,true,true,true,true,true,true,true,true,true,true,true,true,true,true,true,true,false,false,false,false,false,false,false,false] rfl rfl aq (fun _ _ _ h=>h) (Or.inl ⟨by rfl,?_⟩) ?_ ?_
     rotate_left
     ·intro w'
      go_simp
      with_reducible rfl
     rotate_left
     ·simp only [Act.put,List.setIfInBounds_toArray,List.set_cons_zero,List.set_cons_succ,aV,aW]
      rfl
     refine aN (i:=18) (N:=some 104) (v:=?_) (a':=?_) #[true,true,true,true,true,true,true,true,true,true,true,true,true,true,true,true,true,true,true,false,false,false,false,false,false,false] rfl rfl aq (fun _ _ _ h=>h) (Or.inl ⟨by rfl,?_⟩) ?_ ?_
     rotate_left
     ·intro w'
      go_simp
      with_reducible rfl
     rotate_left
     ·simp only [Act.put,List.setIfInBounds_toArray,List.set_cons_zero,List.set_cons_succ,aV,aW]
      rfl
     refine aN (i:=19) (N:=some 105) (v:=?_) (a':=?_) #[true,true,true,true,true,true,true,true,true,true,true,true,true,true,true,true,true,true,true,true,false,false,false,false,false,false] rfl rfl aq (fun _ _ _ h=>h) (Or.inl ⟨by rfl,?_⟩) ?_ ?_
     rotate_left
     ·intro w'
      go_simp
      with_reducible rfl
     rotate_left
     ·simp only [Act.put,List.setIfInBounds_toArray,List.set_cons_zero,List.set_cons_succ,aV,aW]
      rfl
     refine aN (i:=20) (N:=some 106) (v:=?_) (a':=?_) #[true,true,true,true,true,true,true,true,true,true,true,true,true,true,true,true,true,true,true,true,true,false,false,false,false,false] rfl rfl aq (fun _ _ _ h=>h) (Or.inl ⟨by rfl,?_⟩) ?_ ?_
     rotate_left
     ·intro w'
      go_simp
      with_reducible rfl
     rotate_left
     ·simp only [Act.put,List.setIfInBounds_toArray,List.set_cons_zero,List.set_cons_succ,aV,aW]
      rfl
     refine fL (i:=21) (N:=some 107) (v:=?_) (a':=?_) #[true,true,true,true,true,true,true,true,true,true,true,true,true,true,true,true,true,true,true,true,true,true,false,false,false,false] rfl rfl aq (fun _ _ _ h=>h) (Or.inl ⟨by rfl,?_⟩) hHeld ?_ ?_
     rotate_left
     ·rintro w' ⟨s0,s1,s2,s3,s4,s5,s6,s7,s8,s9,ER,EU,s12,Fe,Ff,Fg,Fh,Fi,Fj⟩
      go_simp
      with_reducible rfl
     rotate_left
     ·simp only [Act.put,List.setIfInBounds_toArray,List.set_cons_zero,List.set_cons_succ,aV,aW]
      rfl
     refine nP (i:=22) (N:=some 108) #[true,true,true,true,true,true,true,true,true,true,true,true,true,true,true,true,true,true,true,true,true,true,true,false,false,false] rfl rfl aq bC (fun K hK=>?_)
     refine lF Tryz.func63 aq rfl #[.agg #[.int .i64 m.f0,.bool m.f1.f0,.slice A2 m.f1.f1.length c2,.string m.f1.f2.f0,.string m.f1.f2.f1,.bool m.f1.f2.f2,.slice A6 m.f2.length c6,.slice A7 m.f3.length c7,.int .i64 m.f4]] (by rfl) rfl rfl tZ ?_
     with_reducible refine (HNO.out _ ?bN).mono ?_
     (case bN=>exact gh.out.hq.bl)
     rintro e w6 ⟨rfl,K8⟩
     refine ⟨_,rfl,?_⟩
     have qx:=ah.mk (gh.out.below K8)
     have UH:=ah.mk (aA Jk.out K8)
     clear K8
     refine hK.out _ _ ⟨qx.out.q0,qx.out.c0,qx.out.c1,qx.out.c2,qx.out.c3,qx.out.c4,qx.out.c5,qx.out.c6,qx.out.c7,qx.out.c8,qx.out.x0,qx.out.x1,qx.out.x2,qx.out.x3,qx.out.x4,qx.out.x5,qx.out.x6,qx.out.x7,qx.out.x8⟩ (fun hHeld=>?_)
     clear hK K
     refine ku (a':=?_) ?_ ?_
     rotate_left
     ·show Act.put _ (some 108) _=_
      simp only [Act.put,List.setIfInBounds_toArray,List.set_cons_zero,List.set_cons_succ,aV,aW]
      rfl
     refine aN (i:=23) (N:=some 109) (v:=?_) (a':=?_) #[true,true,true,true,true,true,true,true,true,true,true,true,true,true,true,true,true,true,true,true,true,true,true,true,false,false] rfl rfl aq (fun _ _ _ h=>h) (Or.inl ⟨by rfl,?_⟩) ?_ ?_
     rotate_left
     ·intro w'
      go_simp
      with_reducible rfl
     rotate_left
     ·simp only [Act.put,List.setIfInBounds_toArray,List.set_cons_zero,List.set_cons_succ,aV,aW]
      rfl
     refine aN (i:=24) (N:=some 110) (v:=?_) (a':=?_) #[true,true,true,true,true,true,true,true,true,true,true,true,true,true,true,true,true,true,true,true,true,true,true,true,true,false] rfl rfl aq (fun _ _ _ h=>h) (Or.inl ⟨by rfl,?_⟩) ?_ ?_
     rotate_left
     ·intro w'
      go_simp
      with_reducible rfl
     rotate_left
     ·simp only [Act.put,List.setIfInBounds_toArray,List.set_cons_zero,List.set_cons_succ,aV,aW]
      rfl
     refine aN (i:=25) (N:=some 111) (v:=?_) (a':=?_) #[true,true,true,true,true,true,true,true,true,true,true,true,true,true,true,true,true,true,true,true,true,true,true,true,true,true] rfl rfl aq (fun _ _ _ h=>h) (Or.inl ⟨by rfl,?_⟩) ?_ ?_
     rotate_left
     ·intro w'
      go_simp
      with_reducible rfl
     rotate_left
     ·simp only [Act.put,List.setIfInBounds_toArray,List.set_cons_zero,List.set_cons_succ,aV,aW]
      rfl
     refine nv aq ?_
     cases z
     ·skip
      obtain rfl:B=false:=Vy.out.trans vR
      go_wp2
      go_ret
      exact ⟨rfl,qx.out.hq.bl,fun h=>by cases h⟩
     ·skip
      have p1:=qx.out.q1
      go_wp2_with (first|(go_at_call 107;refine (AV qx.out.hq HDT.out HLN.out).mono ?_;rintro e w7 ⟨rfl,hs7,hb7,PK⟩;have PL:=fM qx.out.hq.hq PK (fun e=>HNE.out (Option.some.inj e).symm);have qV:=fM UH.out PK (Kd.Mk qx.out.hq.hs UH.out bC);have p7:w7.cell? ⟨gq,1,none⟩=some (.slice (some ⟨gm,0,none⟩) ms.length cv):=(af PL 1).trans rfl;have f7:=aa PL 1;have k0_ :=(af qV 0).trans rfl;have k1_ :=(af qV 1).trans rfl;have k2_ :=(af qV 2).trans rfl;have k3_ :=(af qV 3).trans rfl;have k4_ :=(af qV 4).trans rfl;have k5_ :=(af qV 5).trans rfl;have k6_ :=(af qV 6).trans rfl;have k7_ :=(af qV 7).trans rfl;have k8_ :=(af qV 8).trans rfl;have k9_ :=(af qV 9).trans rfl;have ahV:=(af qV 10).trans rfl;have ahW:=(af qV 11).trans rfl;have ahX:=(af qV 12).trans rfl;have Vz:=ah.mk (QW.put hb7 PL qx.out.hq.ge hs7);clear hs7 hb7 PK PL qV))
      obtain rfl:B=true:=Vy.out.trans vR
      obtain rfl:N=n:=HNV.out.trans wW
      obtain rfl:M=ms.eraseIdx i:=HMV.out.trans wW
      go_ret
      exact ⟨rfl,Vz.out.bl,fun _ =>⟨_,Vz.out⟩⟩
    ·skip
     obtain rfl:B=false:=Vy.out.trans vR
     refine kS (n:=26) (S:=fun w'=>w'.cell? ⟨gq,0,none⟩=some (.int .i64 n)∧w'.cell? ⟨w.heap.size,4,none⟩=some (.int .i64 m.f0)∧w'.cell? ⟨w.heap.size,5,none⟩=some (.bool m.f1.f0)∧w'.cell? ⟨w.heap.size,6,none⟩=some (.slice A2 m.f1.f1.length c2)∧w'.cell? ⟨w.heap.size,7,none⟩=some (.string m.f1.f2.f0)∧w'.cell? ⟨w.heap.size,8,none⟩=some (.string m.f1.f2.f1)∧w'.cell? ⟨w.heap.size,9,none⟩=some (.bool m.f1.f2.f2)∧w'.cell? ⟨w.heap.size,10,none⟩=some (.slice A6 m.f2.length c6)∧w'.cell? ⟨w.heap.size,11,none⟩=some (.slice A7 m.f3.length c7)∧w'.cell? ⟨w.heap.size,12,none⟩=some (.int .i64 m.f4)∧w'.cell? ⟨gm,i * 9,none⟩=some (.int .i64 x.f0)∧w'.cell? ⟨gm,i * 9 + 1,none⟩=some (.bool x.f1.f0)∧w'.cell? ⟨gm,i * 9 + 2,none⟩=some (.slice B2 x.f1.f1.length d2)∧w'.cell? ⟨gm,i * 9 + 3,none⟩=some (.string x.f1.f2.f0)∧w'.cell? ⟨gm,i * 9 + 4,none⟩=some (.string x.f1.f2.f1)∧w'.cell? ⟨gm,i * 9 + 5,none⟩=some (.bool x.f1.f2.f2)∧w'.cell? ⟨gm,i * 9 + 6,none⟩=some (.slice B6 x.f2.length d6)∧w'.cell? ⟨gm,i * 9 + 7,none⟩=some (.slice B7 x.f3.length d7)∧w'.cell? ⟨gm,i * 9 + 8,none⟩=some (.int .i64 x.f4)) (ds:=[]) #[false,false,false,false,false,false,false,false,false,false,false,false,false,false,false,false,false,false,false,false,false,false,false,false,false,false] aq (by rfl) (by rfl) ⟨fA.out.q0,fA.out.c0,fA.out.c1,fA.out.c2,fA.out.c3,fA.out.c4,fA.out.c5,fA.out.c6,fA.out.c7,fA.out.c8,fA.out.x0,fA.out.x1,fA.out.x2,fA.out.x3,fA.out.x4,fA.out.x5,fA.out.x6,fA.out.x7,fA.out.x8⟩ (fun hHeld=>?_)
     refine aN (i:=0) (N:=some 86) (v:=?_) (a':=?_) #[true,false,false,false,false,false,false,false,false,false,false,false,false,false,false,false,false,false,false,false,false,false,false,false,false,false] rfl rfl aq (fun _ _ _ h=>h) (Or.inl ⟨by rfl,?_⟩) ?_ ?_
     rotate_left
     ·intro w'
      go_simp
      with_reducible rfl
     rotate_left
     ·simp only [Act.put,List.setIfInBounds_toArray,List.set_cons_zero,List.set_cons_succ,aV,aW]
      rfl
     refine aN (i:=1) (N:=some 87) (v:=?_) (a':=?_) #[true,true,false,false,false,false,false,false,false,false,false,false,false,false,false,false,false,false,false,false,false,false,false,false,false,false] rfl rfl aq (fun _ _ _ h=>h) (Or.inl ⟨by rfl,?_⟩) ?_ ?_
     rotate_left
     ·intro w'
      go_simp
      with_reducible rfl
     rotate_left
     ·simp only [Act.put,List.setIfInBounds_toArray,List.set_cons_zero,List.set_cons_succ,aV,aW]
      rfl
     refine aN (i:=2) (N:=some 88) (v:=?_) (a':=?_) #[true,true,true,false,false,false,false,false,false,false,false,false,false,false,false,false,false,false,false,false,false,false,false,false,false,false] rfl rfl aq (fun _ _ _ h=>h) (Or.inl ⟨by rfl,?_⟩) ?_ ?_
     rotate_left
     ·intro w'
      go_simp
      with_reducible rfl
     rotate_left
     ·simp only [Act.put,List.setIfInBounds_toArray,List.set_cons_zero,List.set_cons_succ,aV,aW]
      rfl
     refine aN (i:=3) (N:=some 89) (v:=?_) (a':=?_) #[true,true,true,true,false,false,false,false,false,false,false,false,false,false,false,false,false,false,false,false,false,false,false,false,false,false] rfl rfl aq (fun _ _ _ h=>h) (Or.inl ⟨by rfl,?_⟩) ?_ ?_
     rotate_left
     ·intro w'
      go_simp
      with_reducible rfl
     rotate_left
     ·simp only [Act.put,List.setIfInBounds_toArray,List.set_cons_zero,List.set_cons_succ,aV,aW]
      rfl
     refine aN (i:=4) (N:=some 90) (v:=?_) (a':=?_) #[true,true,true,true,true,false,false,false,false,false,false,false,false,false,false,false,false,false,false,false,false,false,false,false,false,false] rfl rfl aq (fun _ _ _ h=>h) (Or.inl ⟨by rfl,?_⟩) ?_ ?_
     rotate_left
     ·intro w'
      go_simp
      with_reducible rfl
     rotate_left
     ·simp only [Act.put,List.setIfInBounds_toArray,List.set_cons_zero,List.set_cons_succ,aV,aW]
      rfl
     refine aN (i:=6) (N:=some 92) (v:=?_) (a':=?_) #[true,true,true,true,true,false,true,false,false,false,false,false,false,false,false,false,false,false,false,false,false,false,false,false,false,false] rfl rfl aq (fun _ _ _ h=>h) (Or.inl ⟨by rfl,?_⟩) ?_ ?_
     rotate_left
     ·intro w'
      go_simp
      with_reducible rfl
     rotate_left
     ·simp only [Act.put,List.setIfInBounds_toArray,List.set_cons_zero,List.set_cons_succ,aV,aW]
      rfl
     refine aN (i:=7) (N:=some 93) (v:=?_) (a':=?_) #[true,true,true,true,true,false,true,true,false,false,false,false,false,false,false,false,false,false,false,false,false,false,false,false,false,false] rfl rfl aq (fun _ _ _ h=>h) (Or.inl ⟨by rfl,?_⟩) ?_ ?_
     rotate_left
     ·intro w'
      go_simp
      with_reducible rfl
     rotate_left
     ·simp only [Act.put,List.setIfInBounds_toArray,List.set_cons_zero,List.set_cons_succ,aV,aW]
      rfl
     refine aN (i:=9) (N:=some 95) (v:=?_) (a':=?_) #[true,true,true,true,true,false,true,true,false,true,false,false,false,false,false,false,false,false,false,false,false,false,false,false,false,false] rfl rfl aq (fun _ _ _ h=>h) (Or.inl ⟨by rfl,?_⟩) ?_ ?_
     rotate_left
     ·intro w'
      go_simp
      with_reducible rfl
     rotate_left
     ·simp only [Act.put,List.setIfInBounds_toArray,List.set_cons_zero,List.set_cons_succ,aV,aW]
      rfl
     refine aN (i:=10) (N:=some 96) (v:=?_) (a':=?_) #[true,true,true,true,true,false,true,true,false,true,true,false,false,false,false,false,false,false,false,false,false,false,false,false,false,false] rfl rfl aq (fun _ _ _ h=>h) (Or.inl ⟨by rfl,?_⟩) ?_ ?_
     rotate_left
     ·intro w'
      go_simp
      with_reducible rfl
     rotate_left
     ·simp only [Act.put,List.setIfInBounds_toArray,List.set_cons_zero,List.set_cons_succ,aV,aW]
      rfl
     refine aN (i:=11) (N:=some 97) (v:=?_) (a':=?_) #[true,true,true,true,true,false,true,true,false,true,true,true,false,false,false,false,false,false,false,false,false,false,false,false,false,false] rfl rfl aq (fun _ _ _ h=>h) (Or.inl ⟨by rfl,?_⟩) ?_ ?_
     rotate_left
     ·intro w'
      go_simp
      with_reducible rfl
     rotate_left
     ·simp only [Act.put,List.setIfInBounds_toArray,List.set_cons_zero,List.set_cons_succ,aV,aW]
      rfl
     refine fL (i:=5) (N:=some 91) (v:=?_) (a':=?_) #[true,true,true,true,true,true,true,true,false,true,true,true,false,false,false,false,false,false,false,false,false,false,false,false,false,false] rfl rfl aq (fun _ _ _ h=>h) (Or.inl ⟨by rfl,?_⟩) hHeld ?_ ?_
     rotate_left
     ·rintro w' ⟨s0,s1,s2,s3,s4,s5,s6,s7,s8,s9,ER,EU,s12,Fe,Ff,Fg,Fh,Fi,Fj⟩
      go_simp
      with_reducible rfl
     rotate_left
     ·simp only [Act.put,List.setIfInBounds_toArray,List.set_cons_zero,List.set_cons_succ,aV,aW]
      rfl
     refine fL (i:=8) (N:=some 94) (v:=?_) (a':=?_) #[true,true,true,true,true,true,true,true,true,true,true,true,false,false,false,false,false,false,false,false,false,false,false,false,false,false] rfl rfl aq (fun _ _ _ h=>h) (Or.inl ⟨by rfl,?_⟩) hHeld ?_ ?_
     rotate_left
     ·rintro w' ⟨s0,s1,s2,s3,s4,s5,s6,s7,s8,s9,ER,EU,s12,Fe,Ff,Fg,Fh,Fi,Fj⟩
      go_simp
      with_reducible rfl
     rotate_left
     ·simp only [Act.put,List.setIfInBounds_toArray,List.set_cons_zero,List.set_cons_succ,aV,aW]
      rfl
     refine fL (i:=12) (N:=some 98) (v:=?_) (a':=?_) #[true,true,true,true,true,true,true,true,true,true,true,true,true,false,false,false,false,false,false,false,false,false,false,false,false,false] rfl rfl aq (fun _ _ _ h=>h) (Or.inl ⟨by rfl,?_⟩) hHeld ?_ ?_
     rotate_left
     ·rintro w' ⟨s0,s1,s2,s3,s4,s5,s6,s7,s8,s9,ER,EU,s12,Fe,Ff,Fg,Fh,Fi,Fj⟩
      go_simp
      with_reducible rfl
     rotate_left
     ·simp only [Act.put,List.setIfInBounds_toArray,List.set_cons_zero,List.set_cons_succ,aV,aW]
      rfl
     refine nP (i:=13) (N:=some 99) #[true,true,true,true,true,true,true,true,true,true,true,true,true,true,false,false,false,false,false,false,false,false,false,false,false,false] rfl rfl aq bC (fun K hK=>?_)
     refine lF Tryz.func106 aq rfl #[.agg #[.int .i64 m.f0,.bool m.f1.f0,.slice A2 m.f1.f1.length c2,.string m.f1.f2.f0,.string m.f1.f2.f1,.bool m.f1.f2.f2,.slice A6 m.f2.length c6,.slice A7 m.f3.length c7,.int .i64 m.f4],.agg #[.int .i64 x.f0,.bool x.f1.f0,.slice B2 x.f1.f1.length d2,.string x.f1.f2.f0,.string x.f1.f2.f1,.bool x.f1.f2.f2,.slice B6 x.f2.length d6,.slice B7 x.f3.length d7,.int .i64 x.f4],.int .i64 n] (by rfl) rfl rfl tZ ?_
     with_reducible refine (HBO.out).mono ?_
     rintro e w5 ⟨rfl,tE⟩
     refine ⟨_,rfl,?_⟩
     have gh:=ah.mk (fA.out.below tE)
     have Jk:=ah.mk (aA RT.out tE)
     clear tE
     refine hK.out _ _ ⟨gh.out.q0,gh.out.c0,gh.out.c1,gh.out.c2,gh.out.c3,gh.out.c4,gh.out.c5,gh.out.c6,gh.out.c7,gh.out.c8,gh.out.x0,gh.out.x1,gh.out.x2,gh.out.x3,gh.out.x4,gh.out.x5,gh.out.x6,gh.out.x7,gh.out.x8⟩ (fun hHeld=>?_)
     clear hK K
     refine ku (a':=?_) ?_ ?_
     rotate_left
     ·show Act.put _ (some 99) _=_
      simp only [Act.put,List.setIfInBounds_toArray,List.set_cons_zero,List.set_cons_succ,aV,aW]
      rfl
     refine aN (i:=14) (N:=some 100) (v:=?_) (a':=?_) #[true,true,true,true,true,true,true,true,true,true,true,true,true,true,true,false,false,false,false,false,false,false,false,false,false,false] rfl rfl aq (fun _ _ _ h=>h) (Or.inl ⟨by rfl,?_⟩) ?_ ?_
     rotate_left
     ·intro w'
      go_simp
      with_reducible rfl
     rotate_left
     ·simp only [Act.put,List.setIfInBounds_toArray,List.set_cons_zero,List.set_cons_succ,aV,aW]
      rfl
     refine aN (i:=15) (N:=some 101) (v:=?_) (a':=?_) #[true,true,true,true,true,true,true,true,true,true,true,true,true,true,true,true,false,false,false,false,false,false,false,false,false,false] rfl rfl aq (fun _ _ _ h=>h) (Or.inl ⟨by rfl,?_⟩) ?_ ?_
     rotate_left
     ·intro w'
      go_simp
      with_reducible rfl
     rotate_left
     ·simp only [Act.put,List.setIfInBounds_toArray,List.set_cons_zero,List.set_cons_succ,aV,aW]
      rfl
     refine aN (i:=16) (N:=some 102) (v:=?_) (a':=?_) #[true,true,true,true,true,true,true,true,true,true,true,true,true,true,true,true,true,false,false,false,false,false,false,false,false,false] rfl rfl aq (fun _ _ _ h=>h) (Or.inl ⟨by rfl,?_⟩) ?_ ?_
     rotate_left
     ·intro w'
      go_simp
      with_reducible rfl
     rotate_left
     ·simp only [Act.put,List.setIfInBounds_toArray,List.set_cons_zero,List.set_cons_succ,aV,aW]
      rfl
     refine aN (i:=17) (N:=some 103) (v:=undef) (a':=?_) #[true,true,true,true,true,true,true,true,true,true,true,true,true,true,true,true,true,true,false,false,false,false,false,false,false,false] rfl rfl aq (fun _ _ _ h=>h) (Or.inr ⟨by rfl,rfl⟩) ?_ ?_
     rotate_left
     ·simp only [Act.put,List.setIfInBounds_toArray,List.set_cons_zero,List.set_cons_succ,aV,aW]
      rfl
     refine aN (i:=18) (N:=some 104) (v:=undef) (a':=?_) #[true,true,true,true,true,true,true,true,true,true,true,true,true,true,true,true,true,true,true,false,false,false,false,false,false,false] rfl rfl aq (fun _ _ _ h=>h) (Or.inr ⟨by rfl,rfl⟩) ?_ ?_
     rotate_left
     ·simp only [Act.put,List.setIfInBounds_toArray,List.set_cons_zero,List.set_cons_succ,aV,aW]
      rfl
     refine aN (i:=19) (N:=some 105) (v:=undef) (a':=?_) #[true,true,true,true,true,true,true,true,true,true,true,true,true,true,true,true,true,true,true,true,false,false,false,false,false,false] rfl rfl aq (fun _ _ _ h=>h) (Or.inr ⟨by rfl,rfl⟩) ?_ ?_
     rotate_left
     ·simp only [Act.put,List.setIfInBounds_toArray,List.set_cons_zero,List.set_cons_succ,aV,aW]
      rfl
     refine aN (i:=20) (N:=some 106) (v:=undef) (a':=?_) #[true,true,true,true,true,true,true,true,true,true,true,true,true,true,true,true,true,true,true,true,true,false,false,false,false,false] rfl rfl aq (fun _ _ _ h=>h) (Or.inr ⟨by rfl,rfl⟩) ?_ ?_
     rotate_left
     ·simp only [Act.put,List.setIfInBounds_toArray,List.set_cons_zero,List.set_cons_succ,aV,aW]
      rfl
     refine aN (i:=21) (N:=some 107) (v:=undef) (a':=?_) #[true,true,true,true,true,true,true,true,true,true,true,true,true,true,true,true,true,true,true,true,true,true,false,false,false,false] rfl rfl aq (fun _ _ _ h=>h) (Or.inr ⟨by rfl,rfl⟩) ?_ ?_
     rotate_left
     ·simp only [Act.put,List.setIfInBounds_toArray,List.set_cons_zero,List.set_cons_succ,aV,aW]
      rfl
     refine aN (i:=22) (N:=some 108) (v:=undef) (a':=?_) #[true,true,true,true,true,true,true,true,true,true,true,true,true,true,true,true,true,true,true,true,true,true,true,false,false,false] rfl rfl aq (fun _ _ _ h=>h) (Or.inr ⟨by rfl,rfl⟩) ?_ ?_
     rotate_left
     ·simp only [Act.put,List.setIfInBounds_toArray,List.set_cons_zero,List.set_cons_succ,aV,aW]
      rfl
     refine aN (i:=23) (N:=some 109) (v:=undef) (a':=?_) #[true,true,true,true,true,true,true,true,true,true,true,true,true,true,true,true,true,true,true,true,true,true,true,true,false,false] rfl rfl aq (fun _ _ _ h=>h) (Or.inr ⟨by rfl,rfl⟩) ?_ ?_
     rotate_left
     ·simp only [Act.put,List.setIfInBounds_toArray,List.set_cons_zero,List.set_cons_succ,aV,aW]
      rfl
     refine aN (i:=24) (N:=some 110) (v:=undef) (a':=?_) #[true,true,true,true,true,true,true,true,true,true,true,true,true,true,true,true,true,true,true,true,true,true,true,true,true,false] rfl rfl aq (fun _ _ _ h=>h) (Or.inr ⟨by rfl,rfl⟩) ?_ ?_
     rotate_left
     ·simp only [Act.put,List.setIfInBounds_toArray,List.set_cons_zero,List.set_cons_succ,aV,aW]
      rfl
     refine aN (i:=25) (N:=some 111) (v:=?_) (a':=?_) #[true,true,true,true,true,true,true,true,true,true,true,true,true,true,true,true,true,true,true,true,true,true,true,true,true,true] rfl rfl aq (fun _ _ _ h=>h) (Or.inl ⟨by rfl,?_⟩) ?_ ?_
     rotate_left
     ·intro w'
      go_simp
      with_reducible rfl
     rotate_left
     ·simp only [Act.put,List.setIfInBounds_toArray,List.set_cons_zero,List.set_cons_succ,aV,aW]
      rfl
     refine nv aq ?_
     go_wp2
     go_ret
     exact ⟨rfl,gh.out.hq.bl,fun h=>by cases h⟩
 ·have hf:f0=false:=by first|assumption|(cases f0<;>first|rfl|exact absurd rfl mD)
  cases d0
  ·skip
   obtain rfl:B=false:=Vy.out.trans (by simp [Close])
   clear hf
   refine kS (n:=26) (S:=fun w'=>w'.cell? ⟨gq,0,none⟩=some (.int .i64 n)∧w'.cell? ⟨w.heap.size,4,none⟩=some (.int .i64 m.f0)∧w'.cell? ⟨w.heap.size,5,none⟩=some (.bool m.f1.f0)∧w'.cell? ⟨w.heap.size,6,none⟩=some (.slice A2 m.f1.f1.length c2)∧w'.cell? ⟨w.heap.size,7,none⟩=some (.string m.f1.f2.f0)∧w'.cell? ⟨w.heap.size,8,none⟩=some (.string m.f1.f2.f1)∧w'.cell? ⟨w.heap.size,9,none⟩=some (.bool m.f1.f2.f2)∧w'.cell? ⟨w.heap.size,10,none⟩=some (.slice A6 m.f2.length c6)∧w'.cell? ⟨w.heap.size,11,none⟩=some (.slice A7 m.f3.length c7)∧w'.cell? ⟨w.heap.size,12,none⟩=some (.int .i64 m.f4)∧w'.cell? ⟨gm,i * 9,none⟩=some (.int .i64 x.f0)∧w'.cell? ⟨gm,i * 9 + 1,none⟩=some (.bool x.f1.f0)∧w'.cell? ⟨gm,i * 9 + 2,none⟩=some (.slice B2 x.f1.f1.length d2)∧w'.cell? ⟨gm,i * 9 + 3,none⟩=some (.string x.f1.f2.f0)∧w'.cell? ⟨gm,i * 9 + 4,none⟩=some (.string x.f1.f2.f1)∧w'.cell? ⟨gm,i * 9 + 5,none⟩=some (.bool x.f1.f2.f2)∧w'.cell? ⟨gm,i * 9 + 6,none⟩=some (.slice B6 x.f2.length d6)∧w'.cell? ⟨gm,i * 9 + 7,none⟩=some (.slice B7 x.f3.length d7)∧w'.cell? ⟨gm,i * 9 + 8,none⟩=some (.int .i64 x.f4)) (ds:=[]) #[false,false,false,false,false,false,false,false,false,false,false,false,false,false,false,false,false,false,false,false,false,false,false,false,false,false] aq (by rfl) (by rfl) ⟨fA.out.q0,fA.out.c0,fA.out.c1,fA.out.c2,fA.out.c3,fA.out.c4,fA.out.c5,fA.out.c6,fA.out.c7,fA.out.c8,fA.out.x0,fA.out.x1,fA.out.x2,fA.out.x3,fA.out.x4,fA.out.x5,fA.out.x6,fA.out.x7,fA.out.x8⟩ (fun hHeld=>?_)
   refine aN (i:=0) (N:=some 86) (v:=?_) (a':=?_) #[true,false,false,false,false,false,false,false,false,false,false,false,false,false,false,false,false,false,false,false,false,false,false,false,false,false] rfl rfl aq (fun _ _ _ h=>h) (Or.inl ⟨by rfl,?_⟩) ?_ ?_
   rotate_left
   ·intro w'
    go_simp
    with_reducible rfl
   rotate_left
   ·simp only [Act.put,List.setIfInBounds_toArray,List.set_cons_zero,List.set_cons_succ,aV,aW]
    rfl
   refine aN (i:=1) (N:=some 87) (v:=?_) (a':=?_) #[true,true,false,false,false,false,false,false,false,false,false,false,false,false,false,false,false,false,false,false,false,false,false,false,false,false] rfl rfl aq (fun _ _ _ h=>h) (Or.inl ⟨by rfl,?_⟩) ?_ ?_
   rotate_left
   ·intro w'
    go_simp
    with_reducible rfl
   rotate_left
   ·simp only [Act.put,List.setIfInBounds_toArray,List.set_cons_zero,List.set_cons_succ,aV,aW]
    rfl
   refine aN (i:=2) (N:=some 88) (v:=?_) (a':=?_) #[true,true,true,false,false,false,false,false,false,false,false,false,false,false,false,false,false,false,false,false,false,false,false,false,false,false] rfl rfl aq (fun _ _ _ h=>h) (Or.inl ⟨by rfl,?_⟩) ?_ ?_
   rotate_left
   ·intro w'
    go_simp
    with_reducible rfl
   rotate_left
   ·simp only [Act.put,List.setIfInBounds_toArray,List.set_cons_zero,List.set_cons_succ,aV,aW]
    rfl
   refine aN (i:=3) (N:=some 89) (v:=undef) (a':=?_) #[true,true,true,true,false,false,false,false,false,false,false,false,false,false,false,false,false,false,false,false,false,false,false,false,false,false] rfl rfl aq (fun _ _ _ h=>h) (Or.inr ⟨by rfl,rfl⟩) ?_ ?_
   rotate_left
   ·simp only [Act.put,List.setIfInBounds_toArray,List.set_cons_zero,List.set_cons_succ,aV,aW]
    rfl
   refine aN (i:=4) (N:=some 90) (v:=undef) (a':=?_) #[true,true,true,true,true,false,false,false,false,false,false,false,false,false,false,false,false,false,false,false,false,false,false,false,false,false] rfl rfl aq (fun _ _ _ h=>h) (Or.inr ⟨by rfl,rfl⟩) ?_ ?_
   rotate_left
   ·simp only [Act.put,List.setIfInBounds_toArray,List.set_cons_zero,List.set_cons_succ,aV,aW]
    rfl
   refine aN (i:=5) (N:=some 91) (v:=undef) (a':=?_) #[true,true,true,true,true,true,false,false,false,false,false,false,false,false,false,false,false,false,false,false,false,false,false,false,false,false] rfl rfl aq (fun _ _ _ h=>h) (Or.inr ⟨by rfl,rfl⟩) ?_ ?_
   rotate_left
   ·simp only [Act.put,List.setIfInBounds_toArray,List.set_cons_zero,List.set_cons_succ,aV,aW]
    rfl
   refine aN (i:=6) (N:=some 92) (v:=undef) (a':=?_) #[true,true,true,true,true,true,true,false,false,false,false,false,false,false,false,false,false,false,false,false,false,false,false,false,false,false] rfl rfl aq (fun _ _ _ h=>h) (Or.inr ⟨by rfl,rfl⟩) ?_ ?_
   rotate_left
   ·simp only [Act.put,List.setIfInBounds_toArray,List.set_cons_zero,List.set_cons_succ,aV,aW]
    rfl
   refine aN (i:=7) (N:=some 93) (v:=undef) (a':=?_) #[true,true,true,true,true,true,true,true,false,false,false,false,false,false,false,false,false,false,false,false,false,false,false,false,false,false] rfl rfl aq (fun _ _ _ h=>h) (Or.inr ⟨by rfl,rfl⟩) ?_ ?_
   rotate_left
   ·simp only [Act.put,List.setIfInBounds_toArray,List.set_cons_zero,List.set_cons_succ,aV,aW]
    rfl
   refine aN (i:=8) (N:=some 94) (v:=undef) (a':=?_) #[true,true,true,true,true,true,true,true,true,false,false,false,false,false,false,false,false,false,false,false,false,false,false,false,false,false] rfl rfl aq (fun _ _ _ h=>h) (Or.inr ⟨by rfl,rfl⟩) ?_ ?_
   rotate_left
   ·simp only [Act.put,List.setIfInBounds_toArray,List.set_cons_zero,List.set_cons_succ,aV,aW]
    rfl
   refine aN (i:=9) (N:=some 95) (v:=undef) (a':=?_) #[true,true,true,true,true,true,true,true,true,true,false,false,false,false,false,false,false,false,false,false,false,false,false,false,false,false] rfl rfl aq (fun _ _ _ h=>h) (Or.inr ⟨by rfl,rfl⟩) ?_ ?_
   rotate_left
   ·simp only [Act.put,List.setIfInBounds_toArray,List.set_cons_zero,List.set_cons_succ,aV,aW]
    rfl
   refine aN (i:=10) (N:=some 96) (v:=undef) (a':=?_) #[true,true,true,true,true,true,true,true,true,true,true,false,false,false,false,false,false,false,false,false,false,false,false,false,false,false] rfl rfl aq (fun _ _ _ h=>h) (Or.inr ⟨by rfl,rfl⟩) ?_ ?_
   rotate_left
   ·simp only [Act.put,List.setIfInBounds_toArray,List.set_cons_zero,List.set_cons_succ,aV,aW]
    rfl
   refine aN (i:=11) (N:=some 97) (v:=undef) (a':=?_) #[true,true,true,true,true,true,true,true,true,true,true,true,false,false,false,false,false,false,false,false,false,false,false,false,false,false] rfl rfl aq (fun _ _ _ h=>h) (Or.inr ⟨by rfl,rfl⟩) ?_ ?_
   rotate_left
   ·simp only [Act.put,List.setIfInBounds_toArray,List.set_cons_zero,List.set_cons_succ,aV,aW]
    rfl
   refine aN (i:=12) (N:=some 98) (v:=undef) (a':=?_) #[true,true,true,true,true,true,true,true,true,true,true,true,true,false,false,false,false,false,false,false,false,false,false,false,false,false] rfl rfl aq (fun _ _ _ h=>h) (Or.inr ⟨by rfl,rfl⟩) ?_ ?_
   rotate_left
   ·simp only [Act.put,List.setIfInBounds_toArray,List.set_cons_zero,List.set_cons_succ,aV,aW]
    rfl
   refine aN (i:=13) (N:=some 99) (v:=undef) (a':=?_) #[true,true,true,true,true,true,true,true,true,true,true,true,true,true,false,false,false,false,false,false,false,false,false,false,false,false] rfl rfl aq (fun _ _ _ h=>h) (Or.inr ⟨by rfl,rfl⟩) ?_ ?_
   rotate_left
   ·simp only [Act.put,List.setIfInBounds_toArray,List.set_cons_zero,List.set_cons_succ,aV,aW]
    rfl
   refine aN (i:=14) (N:=some 100) (v:=undef) (a':=?_) #[true,true,true,true,true,true,true,true,true,true,true,true,true,true,true,false,false,false,false,false,false,false,false,false,false,false] rfl rfl aq (fun _ _ _ h=>h) (Or.inr ⟨by rfl,rfl⟩) ?_ ?_
   rotate_left
   ·simp only [Act.put,List.setIfInBounds_toArray,List.set_cons_zero,List.set_cons_succ,aV,aW]
    rfl
   refine aN (i:=15) (N:=some 101) (v:=?_) (a':=?_) #[true,true,true,true,true,true,true,true,true,true,true,true,true,true,true,true,false,false,false,false,false,false,false,false,false,false] rfl rfl aq (fun _ _ _ h=>h) (Or.inl ⟨by rfl,?_⟩) ?_ ?_
   rotate_left
   ·intro w'
    go_simp
    with_reducible rfl
   rotate_left
   ·simp only [Act.put,List.setIfInBounds_toArray,List.set_cons_zero,List.set_cons_succ,aV,aW]
    rfl
   refine aN (i:=16) (N:=some 102) (v:=?_) (a':=?_) #[true,true,true,true,true,true,true,true,true,true,true,true,true,true,true,true,true,false,false,false,false,false,false,false,false,false] rfl rfl aq (fun _ _ _ h=>h) (Or.inl ⟨by rfl,?_⟩) ?_ ?_
   rotate_left
   ·intro w'
    go_simp
    with_reducible rfl
   rotate_left
   ·simp only [Act.put,List.setIfInBounds_toArray,List.set_cons_zero,List.set_cons_succ,aV,aW]
    rfl
   refine aN (i:=17) (N:=some 103) (v:=undef) (a':=?_) #[true,true,true,true,true,true,true,true,true,true,true,true,true,true,true,true,true,true,false,false,false,false,false,false,false,false] rfl rfl aq (fun _ _ _ h=>h) (Or.inr ⟨by rfl,rfl⟩) ?_ ?_
   rotate_left
   ·simp only [Act.put,List.setIfInBounds_toArray,List.set_cons_zero,List.set_cons_succ,aV,aW]
    rfl
   refine aN (i:=18) (N:=some 104) (v:=undef) (a':=?_) #[true,true,true,true,true,true,true,true,true,true,true,true,true,true,true,true,true,true,true,false,false,false,false,false,false,false] rfl rfl aq (fun _ _ _ h=>h) (Or.inr ⟨by rfl,rfl⟩) ?_ ?_
   rotate_left
   ·simp only [Act.put,List.setIfInBounds_toArray,List.set_cons_zero,List.set_cons_succ,aV,aW]
    rfl
   refine aN (i:=19) (N:=some 105) (v:=undef) (a':=?_) #[true,true,true,true,true,true,true,true,true,true,true,true,true,true,true,true,true,true,true,true,false,false,false,false,false,false] rfl rfl aq (fun _ _ _ h=>h) (Or.inr ⟨by rfl,rfl⟩) ?_ ?_
   rotate_left
   ·simp only [Act.put,List.setIfInBounds_toArray,List.set_cons_zero,List.set_cons_succ,aV,aW]
    rfl
   refine aN (i:=20) (N:=some 106) (v:=undef) (a':=?_) #[true,true,true,true,true,true,true,true,true,true,true,true,true,true,true,true,true,true,true,true,true,false,false,false,false,false] rfl rfl aq (fun _ _ _ h=>h) (Or.inr ⟨by rfl,rfl⟩) ?_ ?_
   rotate_left
   ·simp only [Act.put,List.setIfInBounds_toArray,List.set_cons_zero,List.set_cons_succ,aV,aW]
    rfl
   refine aN (i:=21) (N:=some 107) (v:=undef) (a':=?_) #[true,true,true,true,true,true,true,true,true,true,true,true,true,true,true,true,true,true,true,true,true,true,false,false,false,false] rfl rfl aq (fun _ _ _ h=>h) (Or.inr ⟨by rfl,rfl⟩) ?_ ?_
   rotate_left
   ·simp only [Act.put,List.setIfInBounds_toArray,List.set_cons_zero,List.set_cons_succ,aV,aW]
    rfl
   refine aN (i:=22) (N:=some 108) (v:=undef) (a':=?_) #[true,true,true,true,true,true,true,true,true,true,true,true,true,true,true,true,true,true,true,true,true,true,true,false,false,false] rfl rfl aq (fun _ _ _ h=>h) (Or.inr ⟨by rfl,rfl⟩) ?_ ?_
   rotate_left
   ·simp only [Act.put,List.setIfInBounds_toArray,List.set_cons_zero,List.set_cons_succ,aV,aW]
    rfl
   refine aN (i:=23) (N:=some 109) (v:=undef) (a':=?_) #[true,true,true,true,true,true,true,true,true,true,true,true,true,true,true,true,true,true,true,true,true,true,true,true,false,false] rfl rfl aq (fun _ _ _ h=>h) (Or.inr ⟨by rfl,rfl⟩) ?_ ?_
   rotate_left
   ·simp only [Act.put,List.setIfInBounds_toArray,List.set_cons_zero,List.set_cons_succ,aV,aW]
    rfl
   refine aN (i:=24) (N:=some 110) (v:=undef) (a':=?_) #[true,true,true,true,true,true,true,true,true,true,true,true,true,true,true,true,true,true,true,true,true,true,true,true,true,false] rfl rfl aq (fun _ _ _ h=>h) (Or.inr ⟨by rfl,rfl⟩) ?_ ?_
   rotate_left
   ·simp only [Act.put,List.setIfInBounds_toArray,List.set_cons_zero,List.set_cons_succ,aV,aW]
    rfl
   refine aN (i:=25) (N:=some 111) (v:=?_) (a':=?_) #[true,true,true,true,true,true,true,true,true,true,true,true,true,true,true,true,true,true,true,true,true,true,true,true,true,true] rfl rfl aq (fun _ _ _ h=>h) (Or.inl ⟨by rfl,?_⟩) ?_ ?_
   rotate_left
   ·intro w'
    go_simp
    with_reducible rfl
   rotate_left
   ·simp only [Act.put,List.setIfInBounds_toArray,List.set_cons_zero,List.set_cons_succ,aV,aW]
    rfl
   refine nv aq ?_
   go_wp2
   go_ret
   exact ⟨rfl,fA.out.hq.bl,fun h=>by cases h⟩
  ·skip
   have HBO:=ah.mk (dA.calls m.f0 m.f1.f0 A2 c2 m.f1.f1 m.f1.f2.f0 m.f1.f2.f1 m.f1.f2.f2 A6 c6 m.f2 A7 c7 m.f3 m.f4 x.f0 x.f1.f0 B2 d2 x.f1.f1 x.f1.f2.f0 x.f1.f2.f1 x.f1.f2.f2 B6 d6 x.f2 B7 d7 x.f3 x.f4 n _ w4.drew (yZ.out.below fA.out.hq.bl).r2 yZ.out.c2 (yZ.out.below fA.out.hq.bl).r6 yZ.out.c6 (yZ.out.below fA.out.hq.bl).r7 yZ.out.c7 HT2.out UG.out.2.1 HT6.out ZA.out.2.1 HT7.out HS7.out.2.1 (HBF.out rfl))
   have HN5:=ah.mk hf
   have HF5:=ah.mk hf
   clear hf
   cases b
   ·skip
    refine kS (n:=26) (S:=fun w'=>w'.cell? ⟨gq,0,none⟩=some (.int .i64 n)∧w'.cell? ⟨w.heap.size,4,none⟩=some (.int .i64 m.f0)∧w'.cell? ⟨w.heap.size,5,none⟩=some (.bool m.f1.f0)∧w'.cell? ⟨w.heap.size,6,none⟩=some (.slice A2 m.f1.f1.length c2)∧w'.cell? ⟨w.heap.size,7,none⟩=some (.string m.f1.f2.f0)∧w'.cell? ⟨w.heap.size,8,none⟩=some (.string m.f1.f2.f1)∧w'.cell? ⟨w.heap.size,9,none⟩=some (.bool m.f1.f2.f2)∧w'.cell? ⟨w.heap.size,10,none⟩=some (.slice A6 m.f2.length c6)∧w'.cell? ⟨w.heap.size,11,none⟩=some (.slice A7 m.f3.length c7)∧w'.cell? ⟨w.heap.size,12,none⟩=some (.int .i64 m.f4)∧w'.cell? ⟨gm,i * 9,none⟩=some (.int .i64 x.f0)∧w'.cell? ⟨gm,i * 9 + 1,none⟩=some (.bool x.f1.f0)∧w'.cell? ⟨gm,i * 9 + 2,none⟩=some (.slice B2 x.f1.f1.length d2)∧w'.cell? ⟨gm,i * 9 + 3,none⟩=some (.string x.f1.f2.f0)∧w'.cell? ⟨gm,i * 9 + 4,none⟩=some (.string x.f1.f2.f1)∧w'.cell? ⟨gm,i * 9 + 5,none⟩=some (.bool x.f1.f2.f2)∧w'.cell? ⟨gm,i * 9 + 6,none⟩=some (.slice B6 x.f2.length d6)∧w'.cell? ⟨gm,i * 9 + 7,none⟩=some (.slice B7 x.f3.length d7)∧w'.cell? ⟨gm,i * 9 + 8,none⟩=some (.int .i64 x.f4)) (ds:=[]) #[false,false,false,false,false,false,false,false,false,false,false,false,false,false,false,false,false,false,false,false,false,false,false,false,false,false] aq (by rfl) (by rfl) ⟨fA.out.q0,fA.out.c0,fA.out.c1,fA.out.c2,fA.out.c3,fA.out.c4,fA.out.c5,fA.out.c6,fA.out.c7,fA.out.c8,fA.out.x0,fA.out.x1,fA.out.x2,fA.out.x3,fA.out.x4,fA.out.x5,fA.out.x6,fA.out.x7,fA.out.x8⟩ (fun hHeld=>?_)
    refine aN (i:=0) (N:=some 86) (v:=?_) (a':=?_) #[true,false,false,false,false,false,false,false,false,false,false,false,false,false,false,false,false,false,false,false,false,false,false,false,false,false] rfl rfl aq (fun _ _ _ h=>h) (Or.inl ⟨by rfl,?_⟩) ?_ ?_
    rotate_left
    ·intro w'
     go_simp
     with_reducible rfl
    rotate_left
    ·simp only [Act.put,List.setIfInBounds_toArray,List.set_cons_zero,List.set_cons_succ,aV,aW]
     rfl
    refine aN (i:=1) (N:=some 87) (v:=?_) (a':=?_) #[true,true,false,false,false,false,false,false,false,false,false,false,false,false,false,false,false,false,false,false,false,false,false,false,false,false] rfl rfl aq (fun _ _ _ h=>h) (Or.inl ⟨by rfl,?_⟩) ?_ ?_
    rotate_left
    ·intro w'
     go_simp
     with_reducible rfl
    rotate_left
    ·simp only [Act.put,List.setIfInBounds_toArray,List.set_cons_zero,List.set_cons_succ,aV,aW]
     rfl
    refine aN (i:=2) (N:=some 88) (v:=?_) (a':=?_) #[true,true,true,false,false,false,false,false,false,false,false,false,false,false,false,false,false,false,false,false,false,false,false,false,false,false] rfl rfl aq (fun _ _ _ h=>h) (Or.inl ⟨by rfl,?_⟩) ?_ ?_
    rotate_left
    ·intro w'
     go_simp
     with_reducible rfl
    rotate_left
    ·simp only [Act.put,List.setIfInBounds_toArray,List.set_cons_zero,List.set_cons_succ,aV,aW]
     rfl
    refine aN (i:=3) (N:=some 89) (v:=?_) (a':=?_) #[true,true,true,true,false,false,false,false,false,false,false,false,false,false,false,false,false,false,false,false,false,false,false,false,false,false] rfl rfl aq (fun _ _ _ h=>h) (Or.inl ⟨by rfl,?_⟩) ?_ ?_
    rotate_left
    ·intro w'
     go_simp
     with_reducible rfl
    rotate_left
    ·simp only [Act.put,List.setIfInBounds_toArray,List.set_cons_zero,List.set_cons_succ,aV,aW]
     rfl
    refine aN (i:=4) (N:=some 90) (v:=?_) (a':=?_) #[true,true,true,true,true,false,false,false,false,false,false,false,false,false,false,false,false,false,false,false,false,false,false,false,false,false] rfl rfl aq (fun _ _ _ h=>h) (Or.inl ⟨by rfl,?_⟩) ?_ ?_
    rotate_left
    ·intro w'
     go_simp
     with_reducible rfl
    rotate_left
    ·simp only [Act.put,List.setIfInBounds_toArray,List.set_cons_zero,List.set_cons_succ,aV,aW]
     rfl
    refine aN (i:=6) (N:=some 92) (v:=?_) (a':=?_) #[true,true,true,true,true,false,true,false,false,false,false,false,false,false,false,false,false,false,false,false,false,false,false,false,false,false] rfl rfl aq (fun _ _ _ h=>h) (Or.inl ⟨by rfl,?_⟩) ?_ ?_
    rotate_left
    ·intro w'
     go_simp
     with_reducible rfl
    rotate_left
    ·simp only [Act.put,List.setIfInBounds_toArray,List.set_cons_zero,List.set_cons_succ,aV,aW]
     rfl
    refine aN (i:=7) (N:=some 93) (v:=?_) (a':=?_) #[true,true,true,true,true,false,true,true,false,false,false,false,false,false,false,false,false,false,false,false,false,false,false,false,false,false] rfl rfl aq (fun _ _ _ h=>h) (Or.inl ⟨by rfl,?_⟩) ?_ ?_
    rotate_left
    ·intro w'
     go_simp
     with_reducible rfl
    rotate_left
    ·simp only [Act.put,List.setIfInBounds_toArray,List.set_cons_zero,List.set_cons_succ,aV,aW]
     rfl
    refine aN (i:=9) (N:=some 95) (v:=?_) (a':=?_) #[true,true,true,true,true,false,true,true,false,true,false,false,false,false,false,false,false,false,false,false,false,false,false,false,false,false] rfl rfl aq (fun _ _ _ h=>h) (Or.inl ⟨by rfl,?_⟩) ?_ ?_
    rotate_left
    ·intro w'
     go_simp
     with_reducible rfl
    rotate_left
    ·simp only [Act.put,List.setIfInBounds_toArray,List.set_cons_zero,List.set_cons_succ,aV,aW]
     rfl
    refine aN (i:=10) (N:=some 96) (v:=?_) (a':=?_) #[true,true,true,true,true,false,true,true,false,true,true,false,false,false,false,false,false,false,false,false,false,false,false,false,false,false] rfl rfl aq (fun _ _ _ h=>h) (Or.inl ⟨by rfl,?_⟩) ?_ ?_
    rotate_left
    ·intro w'
     go_simp
     with_reducible rfl
    rotate_left
    ·simp only [Act.put,List.setIfInBounds_toArray,List.set_cons_zero,List.set_cons_succ,aV,aW]
     rfl
    refine aN (i:=11) (N:=some 97) (v:=?_) (a':=?_) #[true,true,true,true,true,false,true,true,false,true,true,true,false,false,false,false,false,false,false,false,false,false,false,false,false,false] rfl rfl aq (fun _ _ _ h=>h) (Or.inl ⟨by rfl,?_⟩) ?_ ?_
    rotate_left
    ·intro w'
     go_simp
     with_reducible rfl
    rotate_left
    ·simp only [Act.put,List.setIfInBounds_toArray,List.set_cons_zero,List.set_cons_succ,aV,aW]
     rfl
    refine fL (i:=5) (N:=some 91) (v:=?_) (a':=?_) #[true,true,true,true,true,true,true,true,false,true,true,true,false,false,false,false,false,false,false,false,false,false,false,false,false,false] rfl rfl aq (fun _ _ _ h=>h) (Or.inl ⟨by rfl,?_⟩) hHeld ?_ ?_
    rotate_left
    ·rintro w' ⟨s0,s1,s2,s3,s4,s5,s6,s7,s8,s9,ER,EU,s12,Fe,Ff,Fg,Fh,Fi,Fj⟩
     go_simp
     with_reducible rfl
    rotate_left
    ·simp only [Act.put,List.setIfInBounds_toArray,List.set_cons_zero,List.set_cons_succ,aV,aW]
     rfl
    refine fL (i:=8) (N:=some 94) (v:=?_) (a':=?_) #[true,true,true,true,true,true,true,true,true,true,true,true,false,false,false,false,false,false,false,false,false,false,false,false,false,false] rfl rfl aq (fun _ _ _ h=>h) (Or.inl ⟨by rfl,?_⟩) hHeld ?_ ?_
    rotate_left
    ·rintro w' ⟨s0,s1,s2,s3,s4,s5,s6,s7,s8,s9,ER,EU,s12,Fe,Ff,Fg,Fh,Fi,Fj⟩
     go_simp
     with_reducible rfl
    rotate_left
    ·simp only [Act.put,List.setIfInBounds_toArray,List.set_cons_zero,List.set_cons_succ,aV,aW]
     rfl
    refine fL (i:=12) (N:=some 98) (v:=?_) (a':=?_) #[true,true,true,true,true,true,true,true,true,true,true,true,true,false,false,false,false,false,false,false,false,false,false,false,false,false] rfl rfl aq (fun _ _ _ h=>h) (Or.inl ⟨by rfl,?_⟩) hHeld ?_ ?_
    rotate_left
    ·rintro w' ⟨s0,s1,s2,s3,s4,s5,s6,s7,s8,s9,ER,EU,s12,Fe,Ff,Fg,Fh,Fi,Fj⟩
     go_simp
     with_reducible rfl
    rotate_left
    ·simp only [Act.put,List.setIfInBounds_toArray,List.set_cons_zero,List.set_cons_succ,aV,aW]
     rfl
    refine nP (i:=13) (N:=some 99) #[true,true,true,true,true,true,true,true,true,true,true,true,true,true,false,false,false,false,false,false,false,false,false,false,false,false] rfl rfl aq bC (fun K hK=>?_)
    refine lF Tryz.func106 aq rfl #[.agg #[.int .i64 m.f0,.bool m.f1.f0,.slice A2 m.f1.f1.length c2,.string m.f1.f2.f0,.string m.f1.f2.f1,.bool m.f1.f2.f2,.slice A6 m.f2.length c6,.slice A7 m.f3.length c7,.int .i64 m.f4],.agg #[.int .i64 x.f0,.bool x.f1.f0,.slice B2 x.f1.f1.length d2,.string x.f1.f2.f0,.string x.f1.f2.f1,.bool x.f1.f2.f2,.slice B6 x.f2.length d6,.slice B7 x.f3.length d7,.int .i64 x.f4],.int .i64 n] (by rfl) rfl rfl tZ ?_
    with_reducible refine (HBO.out).mono ?_
    rintro e w5 ⟨rfl,tE⟩
    refine ⟨_,rfl,?_⟩
    have gh:=ah.mk (fA.out.below tE)
    have Jk:=ah.mk (aA RT.out tE)
    clear tE
    refine hK.out _ _ ⟨gh.out.q0,gh.out.c0,gh.out.c1,gh.out.c2,gh.out.c3,gh.out.c4,gh.out.c5,gh.out.c6,gh.out.c7,gh.out.c8,gh.out.x0,gh.out.x1,gh.out.x2,gh.out.x3,gh.out.x4,gh.out.x5,gh.out.x6,gh.out.x7,gh.out.x8⟩ (fun hHeld=>?_)
    clear hK K
    refine ku (a':=?_) ?_ ?_
    rotate_left
    ·show Act.put _ (some 99) _=_
     simp only [Act.put,List.setIfInBounds_toArray,List.set_cons_zero,List.set_cons_succ,aV,aW]
     rfl
    refine aN (i:=14) (N:=some 100) (v:=?_) (a':=?_) #[true,true,true,true,true,true,true,true,true,true,true,true,true,true,true,false,false,false,false,false,false,false,false,false,false,false] rfl rfl aq (fun _ _ _ h=>h) (Or.inl ⟨by rfl,?_⟩) ?_ ?_
    rotate_left
    ·intro w'
     go_simp
     with_reducible rfl
    rotate_left
    ·simp only [Act.put,List.setIfInBounds_toArray,List.set_cons_zero,List.set_cons_succ,aV,aW]
     rfl
    refine aN (i:=15) (N:=some 101) (v:=?_) (a':=?_) #[true,true,true,true,true,true,true,true,true,true,true,true,true,true,true,true,false,false,false,false,false,false,false,false,false,false] rfl rfl aq (fun _ _ _ h=>h) (Or.inl ⟨by rfl,?_⟩) ?_ ?_
    rotate_left
    ·intro w'
     go_simp
     with_reducible rfl
    rotate_left
    ·simp only [Act.put,List.setIfInBounds_toArray,List.set_cons_zero,List.set_cons_succ,aV,aW]
     rfl
    refine aN (i:=16) (N:=some 102) (v:=?_) (a':=?_) #[true,true,true,true,true,true,true,true,true,true,true,true,true,true,true,true,true,false,false,false,false,false,false,false,false,false] rfl rfl aq (fun _ _ _ h=>h) (Or.inl ⟨by rfl,?_⟩) ?_ ?_
    rotate_left
    ·intro w'
     go_simp
     with_reducible rfl
    rotate_left
    ·simp only [Act.put,List.setIfInBounds_toArray,List.set_cons_zero,List.set_cons_succ,aV,aW]
     rfl
    refine aN (i:=17) (N:=some 103) (v:=?_) (a':=?_) #[true,true,true,true,true,true,true,true,true,true,true,true,true,true,true,true,true,true,false,false,false,false,false,false,false,false] rfl rfl aq (fun _ _ _ h=>h) (Or.inl ⟨by rfl,?_⟩) ?_ ?_
    rotate_left
    ·intro w'
     go_simp
     with_reducible rfl
    rotate_left
    ·simp only [Act.put,List.setIfInBounds_toArray,List.set_cons_zero,List.set_cons_succ,aV,aW]
     rfl
    refine aN (i:=18) (N:=some 104) (v:=?_) (a':=?_) #[true,true,true,true,true,true,true,true,true,true,true,true,true,true,true,true,true,true,true,false,false,false,false,false,false,false] rfl rfl aq (fun _ _ _ h=>h) (Or.inl ⟨by rfl,?_⟩) ?_ ?_
    rotate_left
    ·intro w'
     go_simp
     with_reducible rfl
    rotate_left
    ·simp only [Act.put,List.setIfInBounds_toArray,List.set_cons_zero,List.set_cons_succ,aV,aW]
     rfl
    refine aN (i:=19) (N:=some 105) (v:=?_) (a':=?_) #[true,true,true,true,true,true,true,true,true,true,true,true,true,true,true,true,true,true,true,true,false,false,false,false,false,false] rfl rfl aq (fun _ _ _ h=>h) (Or.inl ⟨by rfl,?_⟩) ?_ ?_
    rotate_left
    ·intro w'
     go_simp
     with_reducible rfl
    rotate_left
    ·simp only [Act.put,List.setIfInBounds_toArray,List.set_cons_zero,List.set_cons_succ,aV,aW]
     rfl
    refine aN (i:=20) (N:=some 106) (v:=?_) (a':=?_) #[true,true,true,true,true,true,true,true,true,true,true,true,true,true,true,true,true,true,true,true,true,false,false,false,false,false] rfl rfl aq (fun _ _ _ h=>h) (Or.inl ⟨by rfl,?_⟩) ?_ ?_
    rotate_left
    ·intro w'
     go_simp
     with_reducible rfl
    rotate_left
    ·simp only [Act.put,List.setIfInBounds_toArray,List.set_cons_zero,List.set_cons_succ,aV,aW]
     rfl
    refine fL (i:=21) (N:=some 107) (v:=?_) (a':=?_) #[true,true,true,true,true,true,true,true,true,true,true,true,true,true,true,true,true,true,true,true,true,true,false,false,false,false] rfl rfl aq (fun _ _ _ h=>h) (Or.inl ⟨by rfl,?_⟩) hHeld ?_ ?_
    rotate_left
    ·rintro w' ⟨s0,s1,s2,s3,s4,s5,s6,s7,s8,s9,ER,EU,s12,Fe,Ff,Fg,Fh,Fi,Fj⟩
     go_simp
     with_reducible rfl
    rotate_left
    ·simp only [Act.put,List.setIfInBounds_toArray,List.set_cons_zero,List.set_cons_succ,aV,aW]
     rfl
    refine nP (i:=22) (N:=some 108) #[true,true,true,true,true,true,true,true,true,true,true,true,true,true,true,true,true,true,true,true,true,true,true,false,false,false] rfl rfl aq bC (fun K hK=>?_)
    refine lF Tryz.func63 aq rfl #[.agg #[.int .i64 m.f0,.bool m.f1.f0,.slice A2 m.f1.f1.length c2,.string m.f1.f2.f0,.string m.f1.f2.f1,.bool m.f1.f2.f2,.slice A6 m.f2.length c6,.slice A7 m.f3.length c7,.int .i64 m.f4]] (by rfl) rfl rfl tZ ?_
    with_reducible refine (HNO.out _ ?bN).mono ?_
    (case bN=>exact gh.out.hq.bl)
    rintro e w6 ⟨rfl,K8⟩
    refine ⟨_,rfl,?_⟩
    have qx:=ah.mk (gh.out.below K8)
    have UH:=ah.mk (aA Jk.out K8)
    clear K8
    refine hK.out _ _ ⟨qx.out.q0,qx.out.c0,qx.out.c1,qx.out.c2,qx.out.c3,qx.out.c4,qx.out.c5,qx.out.c6,qx.out.c7,qx.out.c8,qx.out.x0,qx.out.x1,qx.out.x2,qx.out.x3,qx.out.x4,qx.out.x5,qx.out.x6,qx.out.x7,qx.out.x8⟩ (fun hHeld=>?_)
    clear hK K
    refine ku (a':=?_) ?_ ?_
    rotate_left
    ·show Act.put _ (some 108) _=_
     simp only [Act.put,List.setIfInBounds_toArray,List.set_cons_zero,List.set_cons_succ,aV,aW]
     rfl
    refine aN (i:=23) (N:=some 109) (v:=?_) (a':=?_) #[true,true,true,true,true,true,true,true,true,true,true,true,true,true,true,true,true,true,true,true,true,true,true,true,false,false] rfl rfl aq (fun _ _ _ h=>h) (Or.inl ⟨by rfl,?_⟩) ?_ ?_
    rotate_left
    ·intro w'
     go_simp
     with_reducible rfl
    rotate_left
    ·simp only [Act.put,List.setIfInBounds_toArray,List.set_cons_zero,List.set_cons_succ,aV,aW]
     rfl
    refine aN (i:=24) (N:=some 110) (v:=?_) (a':=?_) #[true,true,true,true,true,true,true,true,true,true,true,true,true,true,true,true,true,true,true,true,true,true,true,true,true,false] rfl rfl aq (fun _ _ _ h=>h) (Or.inl ⟨by rfl,?_⟩) ?_ ?_
    rotate_left
    ·intro w'
     go_simp
     with_reducible rfl
    rotate_left
    ·simp only [Act.put,List.setIfInBounds_toArray,List.set_cons_zero,List.set_cons_succ,aV,aW]
     rfl
    refine aN (i:=25) (N:=some 111) (v:=?_) (a':=?_) #[true,true,true,true,true,true,true,true,true,true,true,true,true,true,true,true,true,true,true,true,true,true,true,true,true,true] rfl rfl aq (fun _ _ _ h=>h) (Or.inl ⟨by rfl,?_⟩) ?_ ?_
    rotate_left
    ·intro w'
     go_simp
     with_reducible rfl
    rotate_left
    ·simp only [Act.put,List.setIfInBounds_toArray,List.set_cons_zero,List.set_cons_succ,aV,aW]
     rfl
    refine nv aq ?_
    cases z
    ·skip
     obtain rfl:B=false:=Vy.out.trans vR
     go_wp2
     go_ret
     exact ⟨rfl,qx.out.hq.bl,fun h=>by cases h⟩
    ·skip
     have p1:=qx.out.q1
     go_wp2_with (first|(go_at_call 107;refine (AV qx.out.hq HDT.out HLN.out).mono ?_;rintro e w7 ⟨rfl,hs7,hb7,PK⟩;have PL:=fM qx.out.hq.hq PK (fun e=>HNE.out (Option.some.inj e).symm);have qV:=fM UH.out PK (Kd.Mk qx.out.hq.hs UH.out bC);have p7:w7.cell? ⟨gq,1,none⟩=some (.slice (some ⟨gm,0,none⟩) ms.length cv):=(af PL 1).trans rfl;have f7:=aa PL 1;have k0_ :=(af qV 0).trans rfl;have k1_ :=(af qV 1).trans rfl;have k2_ :=(af qV 2).trans rfl;have k3_ :=(af qV 3).trans rfl;have k4_ :=(af qV 4).trans rfl;have k5_ :=(af qV 5).trans rfl;have k6_ :=(af qV 6).trans rfl;have k7_ :=(af qV 7).trans rfl;have k8_ :=(af qV 8).trans rfl;have k9_ :=(af qV 9).trans rfl;have ahV:=(af qV 10).trans rfl;have ahW:=(af qV 11).trans rfl;have ahX:=(af qV 12).trans rfl;have Vz:=ah.mk (QW.put hb7 PL qx.out.hq.ge hs7);clear hs7 hb7 PK PL qV))
     obtain rfl:B=true:=Vy.out.trans vR
     obtain rfl:N=n:=HNV.out.trans wW
     obtain rfl:M=ms.eraseIdx i:=HMV.out.trans wW
     go_ret
     exact ⟨rfl,Vz.out.bl,fun _ =>⟨_,Vz.out⟩⟩
   ·skip
    obtain rfl:B=false:=Vy.out.trans vR
    refine kS (n:=26) (S:=fun w'=>w'.cell? ⟨gq,0,none⟩=some (.int .i64 n)∧w'.cell? ⟨w.heap.size,4,none⟩=some (.int .i64 m.f0)∧w'.cell? ⟨w.heap.size,5,none⟩=some (.bool m.f1.f0)∧w'.cell? ⟨w.heap.size,6,none⟩=some (.slice A2 m.f1.f1.length c2)∧w'.cell? ⟨w.heap.size,7,none⟩=some (.string m.f1.f2.f0)∧w'.cell? ⟨w.heap.size,8,none⟩=some (.string m.f1.f2.f1)∧w'.cell? ⟨w.heap.size,9,none⟩=some (.bool m.f1.f2.f2)∧w'.cell? ⟨w.heap.size,10,none⟩=some (.slice A6 m.f2.length c6)∧w'.cell? ⟨w.heap.size,11,none⟩=some (.slice A7 m.f3.length c7)∧w'.cell? ⟨w.heap.size,12,none⟩=some (.int .i64 m.f4)∧w'.cell? ⟨gm,i * 9,none⟩=some (.int .i64 x.f0)∧w'.cell? ⟨gm,i * 9 + 1,none⟩=some (.bool x.f1.f0)∧w'.cell? ⟨gm,i * 9 + 2,none⟩=some (.slice B2 x.f1.f1.length d2)∧w'.cell? ⟨gm,i * 9 + 3,none⟩=some (.string x.f1.f2.f0)∧w'.cell? ⟨gm,i * 9 + 4,none⟩=some (.string x.f1.f2.f1)∧w'.cell? ⟨gm,i * 9 + 5,none⟩=some (.bool x.f1.f2.f2)∧w'.cell? ⟨gm,i * 9 + 6,none⟩=some (.slice B6 x.f2.length d6)∧w'.cell? ⟨gm,i * 9 + 7,none⟩=some (.slice B7 x.f3.length d7)∧w'.cell? ⟨gm,i * 9 + 8,none⟩=some (.int .i64 x.f4)) (ds:=[]) #[false,false,false,false,false,false,false,false,false,false,false,false,false,false,false,false,false,false,false,false,false,false,false,false,false,false] aq (by rfl) (by rfl) ⟨fA.out.q0,fA.out.c0,fA.out.c1,fA.out.c2,fA.out.c3,fA.out.c4,fA.out.c5,fA.out.c6,fA.out.c7,fA.out.c8,fA.out.x0,fA.out.x1,fA.out.x2,fA.out.x3,fA.out.x4,fA.out.x5,fA.out.x6,fA.out.x7,fA.out.x8⟩ (fun hHeld=>?_)
    refine aN (i:=0) (N:=some 86) (v:=?_) (a':=?_) #[true,false,false,false,false,false,false,false,false,false,false,false,false,false,false,false,false,false,false,false,false,false,false,false,false,false] rfl rfl aq (fun _ _ _ h=>h) (Or.inl ⟨by rfl,?_⟩) ?_ ?_
    rotate_left
    ·intro w'
     go_simp
     with_reducible rfl
    rotate_left
    ·simp only [Act.put,List.setIfInBounds_toArray,List.set_cons_zero,List.set_cons_succ,aV,aW]
     rfl
    refine aN (i:=1) (N:=some 87) (v:=?_) (a':=?_) #[true,true,false,false,false,false,false,false,false,false,false,false,false,false,false,false,false,false,false,false,false,false,false,false,false,false] rfl rfl aq (fun _ _ _ h=>h) (Or.inl ⟨by rfl,?_⟩) ?_ ?_
    rotate_left
    ·intro w'
     go_simp
     with_reducible rfl
    rotate_left
    ·simp only [Act.put,List.setIfInBounds_toArray,List.set_cons_zero,List.set_cons_succ,aV,aW]
     rfl
    refine aN (i:=2) (N:=some 88) (v:=?_) (a':=?_) #[true,true,true,false,false,false,false,false,false,false,false,false,false,false,false,false,false,false,false,false,false,false,false,false,false,false] rfl rfl aq (fun _ _ _ h=>h) (Or.inl ⟨by rfl,?_⟩) ?_ ?_
    rotate_left
    ·intro w'
     go_simp
     with_reducible rfl
    rotate_left
    ·simp only [Act.put,List.setIfInBounds_toArray,List.set_cons_zero,List.set_cons_succ,aV,aW]
     rfl
    refine aN (i:=3) (N:=some 89) (v:=?_) (a':=?_) #[true,true,true,true,false,false,false,false,false,false,false,false,false,false,false,false,false,false,false,false,false,false,false,false,false,false] rfl rfl aq (fun _ _ _ h=>h) (Or.inl ⟨by rfl,?_⟩) ?_ ?_
    rotate_left
    ·intro w'
     go_simp
     with_reducible rfl
    rotate_left
    ·simp only [Act.put,List.setIfInBounds_toArray,List.set_cons_zero,List.set_cons_succ,aV,aW]
     rfl
    refine aN (i:=4) (N:=some 90) (v:=?_) (a':=?_) #[true,true,true,true,true,false,false,false,false,false,false,false,false,false,false,false,false,false,false,false,false,false,false,false,false,false] rfl rfl aq (fun _ _ _ h=>h) (Or.inl ⟨by rfl,?_⟩) ?_ ?_
    rotate_left
    ·intro w'
     go_simp
     with_reducible rfl
    rotate_left
    ·simp only [Act.put,List.setIfInBounds_toArray,List.set_cons_zero,List.set_cons_succ,aV,aW]
     rfl
    refine aN (i:=6) (N:=some 92) (v:=?_) (a':=?_) #[true,true,true,true,true,false,true,false,false,false,false,false,false,false,false,false,false,false,false,false,false,false,false,false,false,false] rfl rfl aq (fun _ _ _ h=>h) (Or.inl ⟨by rfl,?_⟩) ?_ ?_
    rotate_left
    ·intro w'
     go_simp
     with_reducible rfl
    rotate_left
    ·simp only [Act.put,List.setIfInBounds_toArray,List.set_cons_zero,List.set_cons_succ,aV,aW]
     rfl
    refine aN (i:=7) (N:=some 93) (v:=?_) (a':=?_) #[true,true,true,true,true,false,true,true,false,false,false,false,false,false,false,false,false,false,false,false,false,false,false,false,false,false] rfl rfl aq (fun _ _ _ h=>h) (Or.inl ⟨by rfl,?_⟩) ?_ ?_
    rotate_left
    ·intro w'
     go_simp
     with_reducible rfl
    rotate_left
    ·simp only [Act.put,List.setIfInBounds_toArray,List.set_cons_zero,List.set_cons_succ,aV,aW]
     rfl
    refine aN (i:=9) (N:=some 95) (v:=?_) (a':=?_) #[true,true,true,true,true,false,true,true,false,true,false,false,false,false,false,false,false,false,false,false,false,false,false,false,false,false] rfl rfl aq (fun _ _ _ h=>h) (Or.inl ⟨by rfl,?_⟩) ?_ ?_
    rotate_left
    ·intro w'
     go_simp
     with_reducible rfl
    rotate_left
    ·simp only [Act.put,List.setIfInBounds_toArray,List.set_cons_zero,List.set_cons_succ,aV,aW]
     rfl
    refine aN (i:=10) (N:=some 96) (v:=?_) (a':=?_) #[true,true,true,true,true,false,true,true,false,true,true,false,false,false,false,false,false,false,false,false,false,false,false,false,false,false] rfl rfl aq (fun _ _ _ h=>h) (Or.inl ⟨by rfl,?_⟩) ?_ ?_
    rotate_left
    ·intro w'
     go_simp
     with_reducible rfl
    rotate_left
    ·simp only [Act.put,List.setIfInBounds_toArray,List.set_cons_zero,List.set_cons_succ,aV,aW]
     rfl
    refine aN (i:=11) (N:=some 97) (v:=?_) (a':=?_) #[true,true,true,true,true,false,true,true,false,true,true,true,false,false,false,false,false,false,false,false,false,false,false,false,false,false] rfl rfl aq (fun _ _ _ h=>h) (Or.inl ⟨by rfl,?_⟩) ?_ ?_
    rotate_left
    ·intro w'
     go_simp
     with_reducible rfl
    rotate_left
    ·simp only [Act.put,List.setIfInBounds_toArray,List.set_cons_zero,List.set_cons_succ,aV,aW]
     rfl
    refine fL (i:=5) (N:=some 91) (v:=?_) (a':=?_) #[true,true,true,true,true,true,true,true,false,true,true,true,false,false,false,false,false,false,false,false,false,false,false,false,false,false] rfl rfl aq (fun _ _ _ h=>h) (Or.inl ⟨by rfl,?_⟩) hHeld ?_ ?_
    rotate_left
    ·rintro w' ⟨s0,s1,s2,s3,s4,s5,s6,s7,s8,s9,ER,EU,s12,Fe,Ff,Fg,Fh,Fi,Fj⟩
     go_simp
     with_reducible rfl
    rotate_left
    ·simp only [Act.put,List.setIfInBounds_toArray,List.set_cons_zero,List.set_cons_succ,aV,aW]
     rfl
    refine fL (i:=8) (N:=some 94) (v:=?_) (a':=?_) #[true,true,true,true,true,true,true,true,true,true,true,true,false,false,false,false,false,false,false,false,false,false,false,false,false,false] rfl rfl aq (fun _ _ _ h=>h) (Or.inl ⟨by rfl,?_⟩) hHeld ?_ ?_
    rotate_left
    ·rintro w' ⟨s0,s1,s2,s3,s4,s5,s6,s7,s8,s9,ER,EU,s12,Fe,Ff,Fg,Fh,Fi,Fj⟩
     go_simp
     with_reducible rfl
    rotate_left
    ·simp only [Act.put,List.setIfInBounds_toArray,List.set_cons_zero,List.set_cons_succ,aV,aW]
     rfl
    refine fL (i:=12) (N:=some 98) (v:=?_) (a':=?_) #[true,true,true,true,true,true,true,true,true,true,true,true,true,false,false,false,false,false,false,false,false,false,false,false,false,false] rfl rfl aq (fun _ _ _ h=>h) (Or.inl ⟨by rfl,?_⟩) hHeld ?_ ?_
    rotate_left
    ·rintro w' ⟨s0,s1,s2,s3,s4,s5,s6,s7,s8,s9,ER,EU,s12,Fe,Ff,Fg,Fh,Fi,Fj⟩
     go_simp
     with_reducible rfl
    rotate_left
    ·simp only [Act.put,List.setIfInBounds_toArray,List.set_cons_zero,List.set_cons_succ,aV,aW]
     rfl
    refine nP (i:=13) (N:=some 99) #[true,true,true,true,true,true,true,true,true,true,true,true,true,true,false,false,false,false,false,false,false,false,false,false,false,false] rfl rfl aq bC (fun K hK=>?_)
    refine lF Tryz.func106 aq rfl #[.agg #[.int .i64 m.f0,.bool m.f1.f0,.slice A2 m.f1.f1.length c2,.string m.f1.f2.f0,.string m.f1.f2.f1,.bool m.f1.f2.f2,.slice A6 m.f2.length c6,.slice A7 m.f3.length c7,.int .i64 m.f4],.agg #[.int .i64 x.f0,.bool x.f1.f0,.slice B2 x.f1.f1.length d2,.string x.f1.f2.f0,.string x.f1.f2.f1,.bool x.f1.f2.f2,.slice B6 x.f2.length d6,.slice B7 x.f3.length d7,.int .i64 x.f4],.int .i64 n] (by rfl) rfl rfl tZ ?_
    with_reducible refine (HBO.out).mono ?_
    rintro e w5 ⟨rfl,tE⟩
    refine ⟨_,rfl,?_⟩
    have gh:=ah.mk (fA.out.below tE)
    have Jk:=ah.mk (aA RT.out tE)
    clear tE
    refine hK.out _ _ ⟨gh.out.q0,gh.out.c0,gh.out.c1,gh.out.c2,gh.out.c3,gh.out.c4,gh.out.c5,gh.out.c6,gh.out.c7,gh.out.c8,gh.out.x0,gh.out.x1,gh.out.x2,gh.out.x3,gh.out.x4,gh.out.x5,gh.out.x6,gh.out.x7,gh.out.x8⟩ (fun hHeld=>?_)
    clear hK K
    refine ku (a':=?_) ?_ ?_
    rotate_left
    ·show Act.put _ (some 99) _=_
     simp only [Act.put,List.setIfInBounds_toArray,List.set_cons_zero,List.set_cons_succ,aV,aW]
     rfl
    refine aN (i:=14) (N:=some 100) (v:=?_) (a':=?_) #[true,true,true,true,true,true,true,true,true,true,true,true,true,true,true,false,false,false,false,false,false,false,false,false,false,false] rfl rfl aq (fun _ _ _ h=>h) (Or.inl ⟨by rfl,?_⟩) ?_ ?_
    rotate_left
    ·intro w'
     go_simp
     with_reducible rfl
    rotate_left
    ·simp only [Act.put,List.setIfInBounds_toArray,List.set_cons_zero,List.set_cons_succ,aV,aW]
     rfl
    refine aN (i:=15) (N:=some 101) (v:=?_) (a':=?_) #[true,true,true,true,true,true,true,true,true,true,true,true,true,true,true,true,false,false,false,false,false,false,false,false,false,false] rfl rfl aq (fun _ _ _ h=>h) (Or.inl ⟨by rfl,?_⟩) ?_ ?_
    rotate_left
    ·intro w'
     go_simp
     with_reducible rfl
    rotate_left
    ·simp only [Act.put,List.setIfInBounds_toArray,List.set_cons_zero,List.set_cons_succ,aV,aW]
     rfl
    refine aN (i:=16) (N:=some 102) (v:=?_) (a':=?_) #[true,true,true,true,true,true,true,true,true,true,true,true,true,true,true,true,true,false,false,false,false,false,false,false,false,false] rfl rfl aq (fun _ _ _ h=>h) (Or.inl ⟨by rfl,?_⟩) ?_ ?_
    rotate_left
    ·intro w'
     go_simp
     with_reducible rfl
    rotate_left
    ·simp only [Act.put,List.setIfInBounds_toArray,List.set_cons_zero,List.set_cons_succ,aV,aW]
     rfl
    refine aN (i:=17) (N:=some 103) (v:=undef) (a':=?_) #[true,true,true,true,true,true,true,true,true,true,true,true,true,true,true,true,true,true,false,false,false,false,false,false,false,false] rfl rfl aq (fun _ _ _ h=>h) (Or.inr ⟨by rfl,rfl⟩) ?_ ?_
    rotate_left
    ·simp only [Act.put,List.setIfInBounds_toArray,List.set_cons_zero,List.set_cons_succ,aV,aW]
     rfl
    refine aN (i:=18) (N:=some 104) (v:=undef) (a':=?_) #[true,true,true,true,true,true,true,true,true,true,true,true,true,true,true,true,true,true,true,false,false,false,false,false,false,false] rfl rfl aq (fun _ _ _ h=>h) (Or.inr ⟨by rfl,rfl⟩) ?_ ?_
    rotate_left
    ·simp only [Act.put,List.setIfInBounds_toArray,List.set_cons_zero,List.set_cons_succ,aV,aW]
     rfl
    refine aN (i:=19) (N:=some 105) (v:=undef) (a':=?_) #[true,true,true,true,true,true,true,true,true,true,true,true,true,true,true,true,true,true,true,true,false,false,false,false,false,false] rfl rfl aq (fun _ _ _ h=>h) (Or.inr ⟨by rfl,rfl⟩) ?_ ?_
    rotate_left
    ·simp only [Act.put,List.setIfInBounds_toArray,List.set_cons_zero,List.set_cons_succ,aV,aW]
     rfl
    refine aN (i:=20) (N:=some 106) (v:=undef) (a':=?_) #[true,true,true,true,true,true,true,true,true,true,true,true,true,true,true,true,true,true,true,true,true,false,false,false,false,false] rfl rfl aq (fun _ _ _ h=>h) (Or.inr ⟨by rfl,rfl⟩) ?_ ?_
    rotate_left
    ·simp only [Act.put,List.setIfInBounds_toArray,List.set_cons_zero,List.set_cons_succ,aV,aW]
     rfl
    refine aN (i:=21) (N:=some 107) (v:=undef) (a':=?_) #[true,true,true,true,true,true,true,true,true,true,true,true,true,true,true,true,true,true,true,true,true,true,false,false,false,false] rfl rfl aq (fun _ _ _ h=>h) (Or.inr ⟨by rfl,rfl⟩) ?_ ?_
    rotate_left
    ·simp only [Act.put,List.setIfInBounds_toArray,List.set_cons_zero,List.set_cons_succ,aV,aW]
     rfl
    refine aN (i:=22) (N:=some 108) (v:=undef) (a':=?_) #[true,true,true,true,true,true,true,true,true,true,true,true,true,true,true,true,true,true,true,true,true,true,true,false,false,false] rfl rfl aq (fun _ _ _ h=>h) (Or.inr ⟨by rfl,rfl⟩) ?_ ?_
    rotate_left
    ·simp only [Act.put,List.setIfInBounds_toArray,List.set_cons_zero,List.set_cons_succ,aV,aW]
     rfl
    refine aN (i:=23) (N:=some 109) (v:=undef) (a':=?_) #[true,true,true,true,true,true,true,true,true,true,true,true,true,true,true,true,true,true,true,true,true,true,true,true,false,false] rfl rfl aq (fun _ _ _ h=>h) (Or.inr ⟨by rfl,rfl⟩) ?_ ?_
    rotate_left
    ·simp only [Act.put,List.setIfInBounds_toArray,List.set_cons_zero,List.set_cons_succ,aV,aW]
     rfl
    refine aN (i:=24) (N:=some 110) (v:=undef) (a':=?_) #[true,true,true,true,true,true,true,true,true,true,true,true,true,true,true,true,true,true,true,true,true,true,true,true,true,false] rfl rfl aq (fun _ _ _ h=>h) (Or.inr ⟨by rfl,rfl⟩) ?_ ?_
    rotate_left
    ·simp only [Act.put,List.setIfInBounds_toArray,List.set_cons_zero,List.set_cons_succ,aV,aW]
     rfl
    refine aN (i:=25) (N:=some 111) (v:=?_) (a':=?_) #[true,true,true,true,true,true,true,true,true,true,true,true,true,true,true,true,true,true,true,true,true,true,true,true,true,true] rfl rfl aq (fun _ _ _ h=>h) (Or.inl ⟨by rfl,?_⟩) ?_ ?_
    rotate_left
    ·intro w'
     go_simp
     with_reducible rfl
    rotate_left
    ·simp only [Act.put,List.setIfInBounds_toArray,List.set_cons_zero,List.set_cons_succ,aV,aW]
     rfl
    refine nv aq ?_
    go_wp2
    go_ret
    exact ⟨rfl,gh.out.hq.bl,fun h=>by cases h⟩
end Go.Proofs.YtbjjaaodfbjkfaaGreatDoor.mU
