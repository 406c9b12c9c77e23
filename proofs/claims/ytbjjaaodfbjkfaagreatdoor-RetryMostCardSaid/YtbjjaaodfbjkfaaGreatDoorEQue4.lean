import Derived.Test.YtbjjaaodfbjkfaaGreatDoorEQue3
set_option maxHeartbeats 8000000
set_option maxRecDepth 100000
namespace Go.Proofs.YtbjjaaodfbjkfaaGreatDoor.qb
open Go.RowKit Go.Proofs.aj.bQ Go.Proofs.aj.dX Go.Proofs.aj.dJ
set_option linter.unusedVariables false
set_option linter.unusedSimpArgs false
abbrev Rc:=iN
abbrev kRc:=mV
theorem QW.Sn {w0 W:World} {gq:Nat} {n:Int} {v:Value} {ms:List Ml} (h:QW w0 W gq n v ms) (i:Nat) (x:Ml) (hx:ms[i]? =some x):
 ∃ gm cm v2 v6 v7 qx,v= .slice (some ⟨gm,0,none⟩) ms.length cm∧gm≠gq∧
   (∀ j u,[Value.int .i64 x.f0,.bool x.f1.f0,v2,.string x.f1.f2.f0,.string x.f1.f2.f1,.bool x.f1.f2.f2,v6,v7,.int .i64 x.f4][j]? =some u→W.cell? ⟨gm,i * 9 + j,none⟩=some u)∧
   Kd.R Kd.string 9 W w0.heap.size qx v2 x.f1.f1∧Kd.R kRc 37 W w0.heap.size qx v6 x.f2∧Kd.R (Kd.int .u8) 5 W w0.heap.size qx v7 x.f3∧
   ∀ w1 (tl:List Rc),W.grownBy w1 v6.ownBlock→Kd.R kRc 37 w1 w0.heap.size qx v6 tl→QW w0 w1 gq n v (ms.set i ⟨x.f0,x.f1,tl,x.f3,x.f4⟩):=by
 have hi:i < ms.length:=(List.getElem?_eq_some_iff.1 hx).1
 obtain ⟨gm,cm,rfl,hge,hlt,cells,hcl⟩:=Kd.ac3 h.hs ay
 obtain ⟨qx,c,hc,hM,hcc,hok,hback⟩:=Kd.QN h.hs z34 (i:Int) ay ay
 rw [Int.toNat_natCast] at hM hcc hback
 rw [List.getD_eq_getElem?_getD,hx,Option.getD_some] at hM
 obtain ⟨v2,v6,v7,rfl,h2,h6,h7⟩:=sF hM
 refine ⟨gm,cm,v2,v6,v7,qx,rfl,?_,fun j u hu=>?_,h2,h6,h7,fun w1 tl hg hr=>?_⟩
 ·rintro rfl
  have h1:=h.hq
  rw [hcl] at h1
  injection h1 with h1
  injection h1 with _ h1
  exact absurd h1 bE
 ·have:=hcc j u hu
  rw [add_plain] at this
  exact this
 ·have hrow:∀ k,v6.ownBlock=some k→qx k:=fun k hk=>h6.1 k hk
  refine ⟨h.bl.grown hg h.bl.size (fun k hk=>Kd.gu h6 k hk),gZ h.hq hg (Kd.zu h6 h.hq bE),h.ge,Kd.kB (hback hg hrow (Dc w1 w0.heap.size qx ⟨x.f0,x.f1,tl,x.f3,x.f4⟩ (Kd.QB h2 h6 bE hg) hr (Kd.QB h7 h6 bE hg))) (fun _ _ =>trivial)⟩
def FR (w0:World) (gq:Nat) (b:Bool) (n:Int) (ms:List Ml) (e:Ending) (w':World):Prop:=
 e= .returned (.bool b)∧Below w0.heap.size w0 w'∧(b=true→∃ v',QW w0 w' gq n v' ms)
variable {w0 w:World} {gq:Nat} {n:Int} {v:Value} {ms:List Ml} {kind id at_ due:Int} {m:Ml} {A2:Option Addr} {c2:Nat} {A6:Option Addr} {c6:Nat} {A7:Option Addr} {c7:Nat}
theorem Py (hW:QW w0 w gq n v ms) (hk1:kind≠1) (hk6:kind≠6) (hi:nH id ms 0 < 0):
 Calls Tryz.prog 59 #[.pointer (some ⟨gq,0,none⟩),.agg (iT kind id at_ due m A2 c2 A6 c6 A7 c7)] w (FR w0 gq false n ms):=by
 have hu1:=Tryz.underlying46
 have hu2:=Tryz.underlying40
 obtain ⟨Av,cv,rfl⟩:=Kd.ji hW.hs
 have yD:=ah.mk (hW.below (cW (Below.refl _ _) (.cells (iT kind id at_ due m A2 c2 A6 c6 A7 c7) 46)))
 have hq1:(w.alloc (.cells (iT kind id at_ due m A2 c2 A6 c6 A7 c7) 46)).cell? ⟨gq,1,none⟩=some (.slice Av ms.length cv):=(af yD.out.hq 1).trans rfl
 have HI:=ah.mk (wX ms id Av cv w.heap.size (w.alloc (.cells (iT kind id at_ due m A2 c2 A6 c6 A7 c7) 46)) (Kd.gv yD.out.hs).2.2 ((af (l8 w _) 1).trans rfl))
 have e1:(kind == 1)=false:=by simpa using hk1
 have e6:(kind == 6)=false:=by simpa using hk6
 have er:decide (nH id ms 0 < 0)=true:=decide_eq_true hi
 clear hW hk1 hk6 hi
 generalize nH id ms 0=r at HI er
 go_enter Tryz.func59,Tryz.ntmps59
 go_wp2_with (go_at_call 104;refine HI.out.mono ?_;rintro e w1 ⟨rfl,hb1⟩;have rY:=ah.mk (jD yD.out.bl yD.out.bl.size hb1);clear hb1)
 go_ret
 exact ⟨rfl,rY.out,fun h=>by cases h⟩
theorem u6 {w0 W:World} {qx:Nat→Prop} {g n c:Nat} {l:List Rc} (h:Kd.R kRc 37 W w0.heap.size qx (.slice (some ⟨g,0,none⟩) n c) l) (a:Nat) (r:Rc) (hr:l[a]? =some r):
 (W.cell? ⟨g,a * 6,none⟩=some (.string r.f0.f0)∧W.cell? ⟨g,a * 6 + 1,none⟩=some (.string r.f0.f1)∧W.cell? ⟨g,a * 6 + 2,none⟩=some (.bool r.f0.f2)∧W.cell? ⟨g,a * 6 + 3,none⟩=some (.int .u8 r.f1)∧W.cell? ⟨g,a * 6 + 4,none⟩=some (.int .i64 r.f2)∧W.cell? ⟨g,a * 6 + 5,none⟩=some (.int .i64 r.f3))∧(∀ j,W.frozen? ⟨g,a * 6 + j,none⟩=false)∧
 ∀ (j:Nat) (seg:List Value) (r':Rc),j + seg.length≤6→([Value.string r.f0.f0,.string r.f0.f1,.bool r.f0.f2,.int .u8 r.f1,.int .i64 r.f2,.int .i64 r.f3].take j ++ seg ++ [Value.string r.f0.f0,.string r.f0.f1,.bool r.f0.f2,.int .u8 r.f1,.int .i64 r.f2,.int .i64 r.f3].drop (j + seg.length)= [Value.string r'.f0.f0,.string r'.f0.f1,.bool r'.f0.f2,.int .u8 r'.f1,.int .i64 r'.f2,.int .i64 r'.f3])→
   Kd.R kRc 37 (W.setCells g (a * 6 + j) seg) w0.heap.size qx (.slice (some ⟨g,0,none⟩) n c) (l.set a r')∧W.grownBy (W.setCells g (a * 6 + j) seg) (some g):=by
 have ha:a < l.length:=(List.getElem?_eq_some_iff.1 hr).1
 have hn:=(Kd.aZ h).1
 obtain ⟨cs,hcl,hM,hcc,hf⟩:=Kd.uM h z37 (a:Int) ay ay
 rw [Int.toNat_natCast] at hM hcc hf
 rw [List.getD_eq_getElem?_getD,hr,Option.getD_some] at hM
 obtain rfl:=pE hM
 have Pz:∀ j u,[Value.string r.f0.f0,.string r.f0.f1,.bool r.f0.f2,.int .u8 r.f1,.int .i64 r.f2,.int .i64 r.f3][j]? =some u→W.cell? ⟨g,a * 6 + j,none⟩=some u:=hcc
 refine ⟨⟨Pz 0 _ rfl,Pz 1 _ rfl,Pz 2 _ rfl,Pz 3 _ rfl,Pz 4 _ rfl,Pz 5 _ rfl⟩,hf,fun j seg r' hj he=>?_⟩
 have h2:=Kd.K6 (oQ:=fun _ =>False) (seg:=seg) (j:=j) (x':=r') h (a:Int) ay ay hcl (by rw [Int.toNat_natCast];exact hcc) hj (by rw [he];exact tF _ _ _ r') (fun _ hk=>hk.elim)
 rw [Int.toNat_natCast] at h2
 exact h2
def xd (kind due:Int) (r:Rc):Rc:=if kind=2 then ⟨r.f0,r.f1,wrap64 (r.f2 + 1),due⟩ else if kind=3 then ⟨r.f0,1,r.f2,r.f3⟩ else ⟨r.f0,2,r.f2,r.f3⟩
def FE (kind:Int) (r:Rc):Bool:=if kind=2 then decide (wrap64 (r.f2 + 1)≤1099511627776) else true
theorem Iq (hW:QW w0 w gq n v ms) (hk:kind=2∨kind=3∨kind=4) (i:Nat) (x:Ml) (hi:nH id ms 0=i) (hx:ms[i]? =some x) (ha:(x.f2.length:Int)≤at_∨∃ (a:Nat) (r:Rc),at_=a∧x.f2[a]? =some r∧r.f1≠0):
 Calls Tryz.prog 59 #[.pointer (some ⟨gq,0,none⟩),.agg (iT kind id at_ due m A2 c2 A6 c6 A7 c7)] w (FR w0 gq false n ms):=by
 have hu1:=Tryz.underlying46
 have hu2:=Tryz.underlying40
 have hu3:=Tryz.underlying34
 have hu4:=Tryz.underlying37
 obtain ⟨Av,cv,rfl⟩:=Kd.ji hW.hs
 have hil:i < ms.length:=(List.getElem?_eq_some_iff.1 hx).1
 have yD:=ah.mk (hW.below (cW (Below.refl _ _) (.cells (iT kind id at_ due m A2 c2 A6 c6 A7 c7) 46)))
 have hq1:(w.alloc (.cells (iT kind id at_ due m A2 c2 A6 c6 A7 c7) 46)).cell? ⟨gq,1,none⟩=some (.slice Av ms.length cv):=(af yD.out.hq 1).trans rfl
 have HI:=ah.mk (wX ms id Av cv w.heap.size (w.alloc (.cells (iT kind id at_ due m A2 c2 A6 c6 A7 c7) 46)) (Kd.gv yD.out.hs).2.2 ((af (l8 w _) 1).trans rfl))
 rw [hi] at HI
 have HX:=ah.mk hx
 have e1:(kind == 1)=false:=by rw [beq_eq_false_iff_ne];omega
 have e6:(kind == 6)=false:=by rw [beq_eq_false_iff_ne];omega
 have e5:(kind == 5)=false:=by rw [beq_eq_false_iff_ne];omega
 have er:decide ((i:Int) < 0)=false:=decide_eq_false ay
 have PY:=ah.mk (l8 w (.cells (iT kind id at_ due m A2 c2 A6 c6 A7 c7) 46))
 clear hW hk hi hx
 rcases ha with ha|⟨a,r,rfl,hr,hs⟩
 ·have ea:decide ((x.f2.length:Int)≤at_)=true:=decide_eq_true ha
  clear ha
  go_enter Tryz.func59,Tryz.ntmps59
  go_wp2_with (go_at_call 104;refine HI.out.mono ?_;rintro e w1 ⟨rfl,hb1⟩;have I9:=ah.mk (yD.out.below hb1);obtain ⟨gm,cm,v2,v6,v7,qx,hv,hne,hcells,Zp,Ae,Zq,hback⟩:=I9.out.Sn i x HX.out;injection hv with hv1 hv2 hv3;subst hv1 hv3;have Zr:w1.cell? ⟨gq,1,none⟩=some (.slice (some ⟨gm,0,none⟩) ms.length cv):=(af I9.out.hq 1).trans rfl;obtain ⟨At,ct,rfl⟩:=Kd.cM Ae;have Ub:w1.cell? ⟨gm,i * 9 + 6,none⟩=some (.slice At x.f2.length ct):=hcells 6 _ rfl;have hc0:w1.cell? ⟨w.heap.size,0,none⟩=some (.int .u8 kind):=(af (aC PY.out hb1) 0).trans rfl;have hc2:w1.cell? ⟨w.heap.size,2,none⟩=some (.int .i64 at_):=(af (aC PY.out hb1) 2).trans rfl;clear hb1 hcells hback Zp Ae Zq)
  go_quiet (fail)
  go_wp2
  go_ret
  exact ⟨rfl,(I9.out.below (eF (Below.refl _ _) _)).bl,fun h=>by cases h⟩
 ·have hal:a < x.f2.length:=(List.getElem?_eq_some_iff.1 hr).1
  have Sp:=ah.mk hr
  have ea:decide ((x.f2.length:Int)≤(a:Int))=false:=decide_eq_false ay
  have es:(r.f1 != 0)=true:=by simpa using hs
  clear hr hs
  go_enter Tryz.func59,Tryz.ntmps59
  go_wp2_with (go_at_call 104;refine HI.out.mono ?_;rintro e w1 ⟨rfl,hb1⟩;have I9:=ah.mk (yD.out.below hb1);obtain ⟨gm,cm,v2,v6,v7,qx,hv,hne,hcells,Zp,Ae,Zq,hback⟩:=I9.out.Sn i x HX.out;injection hv with hv1 hv2 hv3;subst hv1 hv3;have Zr:w1.cell? ⟨gq,1,none⟩=some (.slice (some ⟨gm,0,none⟩) ms.length cv):=(af I9.out.hq 1).trans rfl;obtain ⟨gt,ct,rfl,-⟩:=Kd.wV Ae ay;obtain ⟨⟨ht0,ht1,ht2,ht3,ht4,ht5⟩,-,-⟩:=u6 Ae a r Sp.out;have Ub:w1.cell? ⟨gm,i * 9 + 6,none⟩=some (.slice (some ⟨gt,0,none⟩) x.f2.length ct):=hcells 6 _ rfl;have hc0:w1.cell? ⟨w.heap.size,0,none⟩=some (.int .u8 kind):=(af (aC PY.out hb1) 0).trans rfl;have hc2:w1.cell? ⟨w.heap.size,2,none⟩=some (.int .i64 a):=(af (aC PY.out hb1) 2).trans rfl;clear hb1 hcells hback Zp Ae Zq)
  go_quiet (fail)
  go_wp2
  go_ret
  exact ⟨rfl,(I9.out.below (eF (Below.refl _ _) _)).bl,fun h=>by cases h⟩
end Go.Proofs.YtbjjaaodfbjkfaaGreatDoor.qb
