import Derived.Test.YtbjjaaodfbjkfaaGreatDoorEQue2
set_option maxHeartbeats 8000000
set_option maxRecDepth 100000
namespace Go.Proofs.YtbjjaaodfbjkfaaGreatDoor.mU
open Go.RowKit Go.Proofs.ak.bR Go.Proofs.ak.dz Go.Proofs.ak.cZ
set_option linter.unusedVariables false
set_option linter.unusedSimpArgs false
abbrev gI (kind id at_ due:Int) (m:Ml) (A2:Option Addr) (c2:Nat) (A6:Option Addr) (c6:Nat) (A7:Option Addr) (c7:Nat):Array Value:=
 #[.int .u8 kind,.int .i64 id,.int .i64 at_,.int .i64 due,.int .i64 m.f0,.bool m.f1.f0,.slice A2 m.f1.f1.length c2,.string m.f1.f2.f0,.string m.f1.f2.f1,.bool m.f1.f2.f2,.slice A6 m.f2.length c6,.slice A7 m.f3.length c7,.int .i64 m.f4]
structure MR (w0:World) (m:Ml) (A2:Option Addr) (c2:Nat) (A6:Option Addr) (c6:Nat) (A7:Option Addr) (c7:Nat):Prop where
 r2:Kd.C Kd.string w0 A2 m.f1.f1.length m.f1.f1
 c2:m.f1.f1.length≤c2
 r6:Kd.C sM w0 A6 m.f2.length m.f2
 c6:m.f2.length≤c6
 r7:Kd.C (Kd.int .u8) w0 A7 m.f3.length m.f3
 c7:m.f3.length≤c7
theorem MR.below {w0 w1:World} {m:Ml} {A2:Option Addr} {c2:Nat} {A6:Option Addr} {c6:Nat} {A7:Option Addr} {c7:Nat} (h:MR w0 m A2 c2 A6 c6 A7 c7) (hb:Below w0.heap.size w0 w1):MR w1 m A2 c2 A6 c6 A7 c7:=
 ⟨Kd.bQ h.r2 hb,h.c2,Kd.bQ h.r6 hb,h.c6,Kd.bQ h.r7 hb,h.c7⟩
def rK (m:Ml):Prop:=m.f1.f1.length * 16≤140737488355328∧m.f2.length * 64≤140737488355328∧m.f3.length * 1≤140737488355328
theorem Ef {m:Ml} (h:rK m):iC.f m.f0 m.f1.f0 m.f1.f1 m.f1.f2.f0 m.f1.f2.f1 m.f1.f2.f2 m.f2 m.f3 m.f4=some (m.f0,m.f1.f0,m.f1.f1,m.f1.f2.f0,m.f1.f2.f1,m.f1.f2.f2,m.f2,m.f3,m.f4):=by
 obtain ⟨h1,h2,h3⟩:=h
 unfold iC.f fC.f eA.f gf.f
 rw [if_pos h1,if_pos h2,if_pos h3]
 rfl
variable {w0 w:World} {gq:Nat} {n:Int} {v:Value} {ms:List Ml} {id at_ due:Int} {m:Ml} {A2:Option Addr} {c2:Nat} {A6:Option Addr} {c6:Nat} {A7:Option Addr} {c7:Nat}
theorem UC (hW:QW w0 w gq n v ms) (hR:MR w0 m A2 c2 A6 c6 A7 c7) (hown:rK m) (hlen:(ms.length + 1) * 136≤140737488355328):
 Calls Tryz.prog 59 #[.pointer (some ⟨gq,0,none⟩),.agg (gI 1 id at_ due m A2 c2 A6 c6 A7 c7)] w fun e w'=>e= .returned (.bool (decide (n≤m.f0) && decide (ms.length < 1000)))∧∃ v',QW w0 w' gq (wrap64 (m.f0 + 1)) v' (ms ++ [m]):=by
 have hu1:=Tryz.underlying46
 have hu2:=Tryz.underlying40
 have hu3:=Tryz.underlying34
 obtain ⟨Av,cv,rfl⟩:=Kd.iH hW.hs
 have wm:=ah.mk (hW.below (b9 (Below.refl _ _) (.cells (gI 1 id at_ due m A2 c2 A6 c6 A7 c7) 46)))
 have hq0:(w.alloc (.cells (gI 1 id at_ due m A2 c2 A6 c6 A7 c7) 46)).cell? ⟨gq,0,none⟩=some (.int .i64 n):=(af wm.out.hq 0).trans rfl
 have hq1:(w.alloc (.cells (gI 1 id at_ due m A2 c2 A6 c6 A7 c7) 46)).cell? ⟨gq,1,none⟩=some (.slice Av ms.length cv):=(af wm.out.hq 1).trans rfl
 have HA:=ah.mk (fun (W:World) (hw:QW w0 W gq n (.slice Av ms.length cv) ms)=>FD.calls m A2 c2 A6 c6 A7 c7 gq n (.slice Av ms.length cv) ms w0 W hw (hR.below hw.bl).r2 hR.c2 (hR.below hw.bl).r6 hR.c6 (hR.below hw.bl).r7 hR.c7 (Ef hown) hlen)
 have HK:=ah.mk (fun (b:Bool) (h:b=(decide (n≤m.f0) && decide (ms.length < 1000)))=>h)
 clear hW hR hown hlen
 by_cases h1:n≤m.f0
 ·have e1:decide (n≤m.f0)=true:=decide_eq_true h1
  by_cases h2:ms.length < 1000
  ·have e2:decide ((ms.length:Int) < 1000)=true:=decide_eq_true az
   have e3:decide (ms.length < 1000)=true:=decide_eq_true h2
   rw [e1,e3]
   clear h1 h2
   go_enter Tryz.func59,Tryz.ntmps59
   go_wp2
   go_quiet (fail)
   go_wp2_with (go_at_call 103;refine (HA.out _ ?K1).mono ?_;(case K1=>exact wm.out.below (fU (Below.refl _ _) _));rintro e w1 ⟨rfl,v1,hv1⟩;have HV:=ah.mk hv1;clear hv1)
   go_ret
   exact ⟨rfl,_,HV.out⟩
  ·have e2:decide ((ms.length:Int) < 1000)=false:=decide_eq_false az
   have e3:decide (ms.length < 1000)=false:=decide_eq_false h2
   rw [e1,e3]
   clear h1 h2
   go_enter Tryz.func59,Tryz.ntmps59
   go_wp2
   go_quiet (fail)
   go_wp2_with (go_at_call 103;refine (HA.out _ ?K1).mono ?_;(case K1=>exact wm.out.below (fU (Below.refl _ _) _));rintro e w1 ⟨rfl,v1,hv1⟩;have HV:=ah.mk hv1;clear hv1)
   go_ret
   exact ⟨rfl,_,HV.out⟩
 ·have e1:decide (n≤m.f0)=false:=decide_eq_false h1
  rw [e1]
  clear h1
  go_enter Tryz.func59,Tryz.ntmps59
  go_wp2
  go_quiet (fail)
  go_wp2_with (go_at_call 103;refine (HA.out _ ?K1).mono ?_;(case K1=>exact wm.out.below (fU (Below.refl _ _) _));rintro e w1 ⟨rfl,v1,hv1⟩;have HV:=ah.mk hv1;clear hv1)
  go_ret
  exact ⟨rfl,_,HV.out⟩
theorem RM (hW:QW w0 w gq n v ms):
 Calls Tryz.prog 59 #[.pointer (some ⟨gq,0,none⟩),.agg (gI 6 id at_ due m A2 c2 A6 c6 A7 c7)] w fun e w'=>e= .returned (.bool (decide (n < id)))∧∃ v',QW w0 w' gq id v' ms:=by
 have hu1:=Tryz.underlying46
 have hu2:=Tryz.underlying40
 have wm:=ah.mk (hW.below (b9 (Below.refl _ _) (.cells (gI 6 id at_ due m A2 c2 A6 c6 A7 c7) 46)))
 have hq0:(w.alloc (.cells (gI 6 id at_ due m A2 c2 A6 c6 A7 c7) 46)).cell? ⟨gq,0,none⟩=some (.int .i64 n):=(af wm.out.hq 0).trans rfl
 have hf0:=aa wm.out.hq 0
 have hne:=Ne.symm (Nat.ne_of_lt (dQ hW.hq))
 have aEt:=Nat.ne_of_lt (dQ hW.hq)
 clear hW
 obtain ⟨b,hb⟩:∃ b,b=decide (n < id):=⟨_,rfl⟩
 rw [← hb]
 cases b
 all_goals
  replace hb:=hb.symm
  have e1:decide (id > n)=decide (n < id):=rfl
  rw [hb] at e1
  go_enter Tryz.func59,Tryz.ntmps59
  go_wp2
  go_quiet (fail)
  go_wp2
  go_ret
  exact ⟨rfl,_,QW.ahP (wm.out.below (fU (Below.refl _ _) _)) id⟩
end Go.Proofs.YtbjjaaodfbjkfaaGreatDoor.mU
namespace Go.Proofs.YtbjjaaodfbjkfaaGreatDoor.mU
open Go.RowKit Go.Proofs.ak.bR Go.Proofs.ak.dz Go.Proofs.ak.cZ
set_option linter.unusedVariables false
set_option linter.unusedSimpArgs false
abbrev Rc:=jM
abbrev kRc:=sM
theorem QW.Jg {w0 W:World} {gq:Nat} {n:Int} {v:Value} {ms:List Ml} (h:QW w0 W gq n v ms) (i:Nat) (x:Ml) (hx:ms[i]? =some x):
 ∃ gm cm v2 v6 v7 qu,v= .slice (some ⟨gm,0,none⟩) ms.length cm∧gm≠gq∧
   (∀ j u,[Value.int .i64 x.f0,.bool x.f1.f0,v2,.string x.f1.f2.f0,.string x.f1.f2.f1,.bool x.f1.f2.f2,v6,v7,.int .i64 x.f4][j]? =some u→W.cell? ⟨gm,i * 9 + j,none⟩=some u)∧
   Kd.R Kd.string 9 W w0.heap.size qu v2 x.f1.f1∧Kd.R kRc 37 W w0.heap.size qu v6 x.f2∧Kd.R (Kd.int .u8) 5 W w0.heap.size qu v7 x.f3∧
   ∀ w1 (tl:List Rc),W.grownBy w1 v6.ownBlock→Kd.R kRc 37 w1 w0.heap.size qu v6 tl→QW w0 w1 gq n v (ms.set i ⟨x.f0,x.f1,tl,x.f3,x.f4⟩):=by
 have hi:i < ms.length:=(List.getElem?_eq_some_iff.1 hx).1
 obtain ⟨gm,cm,rfl,hge,hlt,cells,hcl⟩:=Kd.acs h.hs az
 obtain ⟨qu,c,hc,hM,hcc,hok,hback⟩:=Kd.TF h.hs z34 (i:Int) az az
 rw [Int.toNat_natCast] at hM hcc hback
 rw [List.getD_eq_getElem?_getD,hx,Option.getD_some] at hM
 obtain ⟨v2,v6,v7,rfl,h2,h6,h7⟩:=Rq hM
 refine ⟨gm,cm,v2,v6,v7,qu,rfl,?_,fun j u hu=>?_,h2,h6,h7,fun w1 tl hg hr=>?_⟩
 ·rintro rfl
  have h1:=h.hq
  rw [hcl] at h1
  injection h1 with h1
  injection h1 with _ h1
  exact absurd h1 bC
 ·have:=hcc j u hu
  rw [add_plain] at this
  exact this
 ·have hrow:∀ k,v6.ownBlock=some k→qu k:=fun k hk=>h6.1 k hk
  refine ⟨h.bl.grown hg h.bl.size (fun k hk=>Kd.fV h6 k hk),fM h.hq hg (Kd.zk h6 h.hq bC),h.ge,Kd.fB (hback hg hrow (GR w1 w0.heap.size qu ⟨x.f0,x.f1,tl,x.f3,x.f4⟩ (Kd.Tx h2 h6 bC hg) hr (Kd.Tx h7 h6 bC hg))) (fun _ _ =>trivial)⟩
def FR (w0:World) (gq:Nat) (b:Bool) (n:Int) (ms:List Ml) (e:Ending) (w':World):Prop:=
 e= .returned (.bool b)∧Below w0.heap.size w0 w'∧(b=true→∃ v',QW w0 w' gq n v' ms)
variable {w0 w:World} {gq:Nat} {n:Int} {v:Value} {ms:List Ml} {kind id at_ due:Int} {m:Ml} {A2:Option Addr} {c2:Nat} {A6:Option Addr} {c6:Nat} {A7:Option Addr} {c7:Nat}
theorem RN (hW:QW w0 w gq n v ms) (hk1:kind≠1) (hk6:kind≠6) (hi:lG id ms 0 < 0):
 Calls Tryz.prog 59 #[.pointer (some ⟨gq,0,none⟩),.agg (gI kind id at_ due m A2 c2 A6 c6 A7 c7)] w (FR w0 gq false n ms):=by
 have hu1:=Tryz.underlying46
 have hu2:=Tryz.underlying40
 obtain ⟨Av,cv,rfl⟩:=Kd.iH hW.hs
 have wm:=ah.mk (hW.below (b9 (Below.refl _ _) (.cells (gI kind id at_ due m A2 c2 A6 c6 A7 c7) 46)))
 have hq1:(w.alloc (.cells (gI kind id at_ due m A2 c2 A6 c6 A7 c7) 46)).cell? ⟨gq,1,none⟩=some (.slice Av ms.length cv):=(af wm.out.hq 1).trans rfl
 have HI:=ah.mk (uA ms id Av cv w.heap.size (w.alloc (.cells (gI kind id at_ due m A2 c2 A6 c6 A7 c7) 46)) (Kd.fu wm.out.hs).2.2 ((af (jg w _) 1).trans rfl))
 have e1:(kind == 1)=false:=by simpa using hk1
 have e6:(kind == 6)=false:=by simpa using hk6
 have er:decide (lG id ms 0 < 0)=true:=decide_eq_true hi
 clear hW hk1 hk6 hi
 generalize lG id ms 0=r at HI er
 go_enter Tryz.func59,Tryz.ntmps59
 go_wp2_with (go_at_call 104;refine HI.out.mono ?_;rintro e w1 ⟨rfl,hb1⟩;have qc:=ah.mk (jT wm.out.bl wm.out.bl.size hb1);clear hb1)
 go_ret
 exact ⟨rfl,qc.out,fun h=>by cases h⟩
theorem tF {w0 W:World} {qu:Nat→Prop} {g n c:Nat} {l:List Rc} (h:Kd.R kRc 37 W w0.heap.size qu (.slice (some ⟨g,0,none⟩) n c) l) (a:Nat) (r:Rc) (hr:l[a]? =some r):
 (W.cell? ⟨g,a * 6,none⟩=some (.string r.f0.f0)∧W.cell? ⟨g,a * 6 + 1,none⟩=some (.string r.f0.f1)∧W.cell? ⟨g,a * 6 + 2,none⟩=some (.bool r.f0.f2)∧W.cell? ⟨g,a * 6 + 3,none⟩=some (.int .u8 r.f1)∧W.cell? ⟨g,a * 6 + 4,none⟩=some (.int .i64 r.f2)∧W.cell? ⟨g,a * 6 + 5,none⟩=some (.int .i64 r.f3))∧(∀ j,W.frozen? ⟨g,a * 6 + j,none⟩=false)∧
 ∀ (j:Nat) (seg:List Value) (r':Rc),j + seg.length≤6→([Value.string r.f0.f0,.string r.f0.f1,.bool r.f0.f2,.int .u8 r.f1,.int .i64 r.f2,.int .i64 r.f3].take j ++ seg ++ [Value.string r.f0.f0,.string r.f0.f1,.bool r.f0.f2,.int .u8 r.f1,.int .i64 r.f2,.int .i64 r.f3].drop (j + seg.length)= [Value.string r'.f0.f0,.string r'.f0.f1,.bool r'.f0.f2,.int .u8 r'.f1,.int .i64 r'.f2,.int .i64 r'.f3])→
   Kd.R kRc 37 (W.setCells g (a * 6 + j) seg) w0.heap.size qu (.slice (some ⟨g,0,none⟩) n c) (l.set a r')∧W.grownBy (W.setCells g (a * 6 + j) seg) (some g):=by
 have ha:a < l.length:=(List.getElem?_eq_some_iff.1 hr).1
 have hn:=(Kd.ck h).1
 obtain ⟨cs,hcl,hM,hcc,hf⟩:=Kd.aci h z37 (a:Int) az az
 rw [Int.toNat_natCast] at hM hcc hf
 rw [List.getD_eq_getElem?_getD,hr,Option.getD_some] at hM
 obtain rfl:=Ro hM
 have RO:∀ j u,[Value.string r.f0.f0,.string r.f0.f1,.bool r.f0.f2,.int .u8 r.f1,.int .i64 r.f2,.int .i64 r.f3][j]? =some u→W.cell? ⟨g,a * 6 + j,none⟩=some u:=hcc
 refine ⟨⟨RO 0 _ rfl,RO 1 _ rfl,RO 2 _ rfl,RO 3 _ rfl,RO 4 _ rfl,RO 5 _ rfl⟩,hf,fun j seg r' hj he=>?_⟩
 have h2:=Kd.afj (pR:=fun _ =>False) (seg:=seg) (j:=j) (x':=r') h (a:Int) az az hcl (by rw [Int.toNat_natCast];exact hcc) hj (by rw [he];exact Cz _ _ _ r') (fun _ hk=>hk.elim)
 rw [Int.toNat_natCast] at h2
 exact h2
def AR (kind due:Int) (r:Rc):Rc:=if kind=2 then ⟨r.f0,r.f1,wrap64 (r.f2 + 1),due⟩ else if kind=3 then ⟨r.f0,1,r.f2,r.f3⟩ else ⟨r.f0,2,r.f2,r.f3⟩
def MM (kind:Int) (r:Rc):Bool:=if kind=2 then decide (wrap64 (r.f2 + 1)≤1099511627776) else true
theorem K3 (hW:QW w0 w gq n v ms) (hk:kind=2∨kind=3∨kind=4) (i:Nat) (x:Ml) (hi:lG id ms 0=i) (hx:ms[i]? =some x) (ha:(x.f2.length:Int)≤at_∨∃ (a:Nat) (r:Rc),at_=a∧x.f2[a]? =some r∧r.f1≠0):
 Calls Tryz.prog 59 #[.pointer (some ⟨gq,0,none⟩),.agg (gI kind id at_ due m A2 c2 A6 c6 A7 c7)] w (FR w0 gq false n ms):=by
 have hu1:=Tryz.underlying46
 have hu2:=Tryz.underlying40
 have hu3:=Tryz.underlying34
 have hu4:=Tryz.underlying37
 obtain ⟨Av,cv,rfl⟩:=Kd.iH hW.hs
 have hil:i < ms.length:=(List.getElem?_eq_some_iff.1 hx).1
 have wm:=ah.mk (hW.below (b9 (Below.refl _ _) (.cells (gI kind id at_ due m A2 c2 A6 c6 A7 c7) 46)))
 have hq1:(w.alloc (.cells (gI kind id at_ due m A2 c2 A6 c6 A7 c7) 46)).cell? ⟨gq,1,none⟩=some (.slice Av ms.length cv):=(af wm.out.hq 1).trans rfl
 have HI:=ah.mk (uA ms id Av cv w.heap.size (w.alloc (.cells (gI kind id at_ due m A2 c2 A6 c6 A7 c7) 46)) (Kd.fu wm.out.hs).2.2 ((af (jg w _) 1).trans rfl))
 rw [hi] at HI
 have HX:=ah.mk hx
 have e1:(kind == 1)=false:=by rw [beq_eq_false_iff_ne];omega
 have e6:(kind == 6)=false:=by rw [beq_eq_false_iff_ne];omega
 have e5:(kind == 5)=false:=by rw [beq_eq_false_iff_ne];omega
 have er:decide ((i:Int) < 0)=false:=decide_eq_false az
 have Dp:=ah.mk (jg w (.cells (gI kind id at_ due m A2 c2 A6 c6 A7 c7) 46))
 clear hW hk hi hx
 rcases ha with ha|⟨a,r,rfl,hr,hs⟩
 ·have ea:decide ((x.f2.length:Int)≤at_)=true:=decide_eq_true ha
  clear ha
  go_enter Tryz.func59,Tryz.ntmps59
  go_wp2_with (go_at_call 104;refine HI.out.mono ?_;rintro e w1 ⟨rfl,hb1⟩;have zM:=ah.mk (wm.out.below hb1);obtain ⟨gm,cm,v2,v6,v7,qu,hv,hne,hcells,Jh,vN,Ji,hback⟩:=zM.out.Jg i x HX.out;injection hv with hv1 hv2 hv3;subst hv1 hv3;have RP:w1.cell? ⟨gq,1,none⟩=some (.slice (some ⟨gm,0,none⟩) ms.length cv):=(af zM.out.hq 1).trans rfl;obtain ⟨At,ct,rfl⟩:=Kd.dm vN;have LR:w1.cell? ⟨gm,i * 9 + 6,none⟩=some (.slice At x.f2.length ct):=hcells 6 _ rfl;have hc0:w1.cell? ⟨w.heap.size,0,none⟩=some (.int .u8 kind):=(af (aA Dp.out hb1) 0).trans rfl;have hc2:w1.cell? ⟨w.heap.size,2,none⟩=some (.int .i64 at_):=(af (aA Dp.out hb1) 2).trans rfl;clear hb1 hcells hback Jh vN Ji)
  go_quiet (fail)
  go_wp2
  go_ret
  exact ⟨rfl,(zM.out.below (fU (Below.refl _ _) _)).bl,fun h=>by cases h⟩
 ·have hal:a < x.f2.length:=(List.getElem?_eq_some_iff.1 hr).1
  have yZ:=ah.mk hr
  have ea:decide ((x.f2.length:Int)≤(a:Int))=false:=decide_eq_false az
  have es:(r.f1 != 0)=true:=by simpa using hs
  clear hr hs
  go_enter Tryz.func59,Tryz.ntmps59
  go_wp2_with (go_at_call 104;refine HI.out.mono ?_;rintro e w1 ⟨rfl,hb1⟩;have zM:=ah.mk (wm.out.below hb1);obtain ⟨gm,cm,v2,v6,v7,qu,hv,hne,hcells,Jh,vN,Ji,hback⟩:=zM.out.Jg i x HX.out;injection hv with hv1 hv2 hv3;subst hv1 hv3;have RP:w1.cell? ⟨gq,1,none⟩=some (.slice (some ⟨gm,0,none⟩) ms.length cv):=(af zM.out.hq 1).trans rfl;obtain ⟨gt,ct,rfl,-⟩:=Kd.Ap vN az;obtain ⟨⟨ht0,ht1,ht2,ht3,ht4,ht5⟩,-,-⟩:=tF vN a r yZ.out;have LR:w1.cell? ⟨gm,i * 9 + 6,none⟩=some (.slice (some ⟨gt,0,none⟩) x.f2.length ct):=hcells 6 _ rfl;have hc0:w1.cell? ⟨w.heap.size,0,none⟩=some (.int .u8 kind):=(af (aA Dp.out hb1) 0).trans rfl;have hc2:w1.cell? ⟨w.heap.size,2,none⟩=some (.int .i64 a):=(af (aA Dp.out hb1) 2).trans rfl;clear hb1 hcells hback Jh vN Ji)
  go_quiet (fail)
  go_wp2
  go_ret
  exact ⟨rfl,(zM.out.below (fU (Below.refl _ _) _)).bl,fun h=>by cases h⟩
end Go.Proofs.YtbjjaaodfbjkfaaGreatDoor.mU
namespace Go.Proofs.YtbjjaaodfbjkfaaGreatDoor.mU
open Go.RowKit Go.Proofs.ak.bR Go.Proofs.ak.dz Go.Proofs.ak.cZ
set_option linter.unusedVariables false
set_option linter.unusedSimpArgs false
theorem step_done {w0 w1 W:World} {gq gt n' ct:Nat} {n:Int} {v:Value} {ms:List Ml} {i:Nat} {x:Ml} {qu:Nat→Prop}
 (hbk:∀ w2 (tl:List Rc),w1.grownBy w2 (some gt)→Kd.R kRc 37 w2 w0.heap.size qu (.slice (some ⟨gt,0,none⟩) n' ct) tl→QW w0 w2 gq n v (ms.set i ⟨x.f0,x.f1,tl,x.f3,x.f4⟩))
 (vN:Kd.R kRc 37 w1 w0.heap.size qu (.slice (some ⟨gt,0,none⟩) n' ct) x.f2) (hb:Below w1.heap.size w1 W) (a:Nat) (r:Rc) (hr:x.f2[a]? =some r)
 (j:Nat) (seg:List Value) (r':Rc) (hj:j + seg.length≤6) (he: [Value.string r.f0.f0,.string r.f0.f1,.bool r.f0.f2,.int .u8 r.f1,.int .i64 r.f2,.int .i64 r.f3].take j ++ seg ++ [Value.string r.f0.f0,.string r.f0.f1,.bool r.f0.f2,.int .u8 r.f1,.int .i64 r.f2,.int .i64 r.f3].drop (j + seg.length)= [Value.string r'.f0.f0,.string r'.f0.f1,.bool r'.f0.f2,.int .u8 r'.f1,.int .i64 r'.f2,.int .i64 r'.f3]):
 QW w0 (W.setCells gt (a * 6 + j) seg) gq n v (ms.set i ⟨x.f0,x.f1,x.f2.set a r',x.f3,x.f4⟩):=by
 obtain ⟨-,-,hs⟩:=tF (Kd.bH vN hb) a r hr
 obtain ⟨h1,h2⟩:=hs j seg r' hj he
 exact hbk _ _ (World.grownBy.trans (mL hb _) h2) h1
theorem Jj {w0 w1 W:World} {gq gt n' ct:Nat} {n:Int} {v:Value} {ms:List Ml} {i:Nat} {x:Ml} {qu:Nat→Prop} {b:Bool}
 (hbk:∀ w2 (tl:List Rc),w1.grownBy w2 (some gt)→Kd.R kRc 37 w2 w0.heap.size qu (.slice (some ⟨gt,0,none⟩) n' ct) tl→QW w0 w2 gq n v (ms.set i ⟨x.f0,x.f1,tl,x.f3,x.f4⟩))
 (vN:Kd.R kRc 37 w1 w0.heap.size qu (.slice (some ⟨gt,0,none⟩) n' ct) x.f2) (hb:Below w1.heap.size w1 W) (a:Nat) (r:Rc) (hr:x.f2[a]? =some r)
 (j:Nat) (seg:List Value) (r':Rc) (hj:j + seg.length≤6) (he: [Value.string r.f0.f0,.string r.f0.f1,.bool r.f0.f2,.int .u8 r.f1,.int .i64 r.f2,.int .i64 r.f3].take j ++ seg ++ [Value.string r.f0.f0,.string r.f0.f1,.bool r.f0.f2,.int .u8 r.f1,.int .i64 r.f2,.int .i64 r.f3].drop (j + seg.length)= [Value.string r'.f0.f0,.string r'.f0.f1,.bool r'.f0.f2,.int .u8 r'.f1,.int .i64 r'.f2,.int .i64 r'.f3]):
 FR w0 gq b n (ms.set i ⟨x.f0,x.f1,x.f2.set a r',x.f3,x.f4⟩) (.returned (.bool b)) (W.setCells gt (a * 6 + j) seg):=
 have hd:=step_done hbk vN hb a r hr j seg r' hj he
 ⟨rfl,hd.bl,fun _ =>⟨_,hd⟩⟩
variable {w0 w:World} {gq:Nat} {n:Int} {v:Value} {ms:List Ml} {kind id at_ due:Int} {m:Ml} {A2:Option Addr} {c2:Nat} {A6:Option Addr} {c6:Nat} {A7:Option Addr} {c7:Nat}
theorem RQ (hW:QW w0 w gq n v ms) (hk:kind=2∨kind=3∨kind=4) (i:Nat) (x:Ml) (hi:lG id ms 0=i) (hx:ms[i]? =some x) (a:Nat) (r:Rc) (hr:x.f2[a]? =some r) (hs:r.f1=0):
 Calls Tryz.prog 59 #[.pointer (some ⟨gq,0,none⟩),.agg (gI kind id (a:Int) due m A2 c2 A6 c6 A7 c7)] w (FR w0 gq (MM kind r) n (ms.set i ⟨x.f0,x.f1,x.f2.set a (AR kind due r),x.f3,x.f4⟩)):=by
 have hu1:=Tryz.underlying46
 have hu2:=Tryz.underlying40
 have hu3:=Tryz.underlying34
 have hu4:=Tryz.underlying37
 obtain ⟨Av,cv,rfl⟩:=Kd.iH hW.hs
 have hil:i < ms.length:=(List.getElem?_eq_some_iff.1 hx).1
 have wm:=ah.mk (hW.below (b9 (Below.refl _ _) (.cells (gI kind id (a:Int) due m A2 c2 A6 c6 A7 c7) 46)))
 have hq1:(w.alloc (.cells (gI kind id (a:Int) due m A2 c2 A6 c6 A7 c7) 46)).cell? ⟨gq,1,none⟩=some (.slice Av ms.length cv):=(af wm.out.hq 1).trans rfl
 have HI:=ah.mk (uA ms id Av cv w.heap.size (w.alloc (.cells (gI kind id (a:Int) due m A2 c2 A6 c6 A7 c7) 46)) (Kd.fu wm.out.hs).2.2 ((af (jg w _) 1).trans rfl))
 rw [hi] at HI
 have HX:=ah.mk hx
 have er:decide ((i:Int) < 0)=false:=decide_eq_false az
 have Dp:=ah.mk (jg w (.cells (gI kind id (a:Int) due m A2 c2 A6 c6 A7 c7) 46))
 clear hW hi hx
 have hal:a < x.f2.length:=(List.getElem?_eq_some_iff.1 hr).1
 have yZ:=ah.mk hr
 have ea:decide ((x.f2.length:Int)≤(a:Int))=false:=decide_eq_false az
 have es:(r.f1 != 0)=false:=by simpa using hs
 clear hr hs
 rcases hk with rfl|rfl|rfl
 ·go_enter Tryz.func59,Tryz.ntmps59
  go_wp2_with (go_at_call 104;refine HI.out.mono ?_;rintro e w1 ⟨rfl,hb1⟩;have zM:=ah.mk (wm.out.below hb1);obtain ⟨gm,cm,v2,v6,v7,qu,hv,hne,hcells,Jh,vN,Ji,hback⟩:=zM.out.Jg i x HX.out;injection hv with hv1 hv2 hv3;subst hv1 hv3;have RP:w1.cell? ⟨gq,1,none⟩=some (.slice (some ⟨gm,0,none⟩) ms.length cv):=(af zM.out.hq 1).trans rfl;obtain ⟨gt,ct,rfl,-⟩:=Kd.Ap vN az;obtain ⟨⟨ht0,ht1,ht2,ht3,ht4,ht5⟩,Zz,-⟩:=tF vN a r yZ.out;have hf4:=Zz 4;have hf5:=Zz 5;have hc3:w1.cell? ⟨w.heap.size,3,none⟩=some (.int .i64 due):=(af (aA Dp.out hb1) 3).trans rfl;have LR:w1.cell? ⟨gm,i * 9 + 6,none⟩=some (.slice (some ⟨gt,0,none⟩) x.f2.length ct):=hcells 6 _ rfl;have hc0:w1.cell? ⟨w.heap.size,0,none⟩=some (.int .u8 _):=(af (aA Dp.out hb1) 0).trans rfl;have hc2:w1.cell? ⟨w.heap.size,2,none⟩=some (.int .i64 a):=(af (aA Dp.out hb1) 2).trans rfl;have HBK:=ah.mk hback;have HR6:=ah.mk vN;clear hb1 hcells hback Jh vN Ji Zz)
  go_quiet (fail)
  go_wp2
  go_quiet (fail)
  go_wp2
  go_region
  go_wp2
  go_ret
  exact Jj HBK.out HR6.out (fU (Below.refl _ _) _) a r yZ.out 4 [.int .i64 (wrap64 (r.f2 + 1)),.int .i64 due] (AR 2 due r) (by show 4 + 2≤6;omega) rfl
 ·go_enter Tryz.func59,Tryz.ntmps59
  go_wp2_with (go_at_call 104;refine HI.out.mono ?_;rintro e w1 ⟨rfl,hb1⟩;have zM:=ah.mk (wm.out.below hb1);obtain ⟨gm,cm,v2,v6,v7,qu,hv,hne,hcells,Jh,vN,Ji,hback⟩:=zM.out.Jg i x HX.out;injection hv with hv1 hv2 hv3;subst hv1 hv3;have RP:w1.cell? ⟨gq,1,none⟩=some (.slice (some ⟨gm,0,none⟩) ms.length cv):=(af zM.out.hq 1).trans rfl;obtain ⟨gt,ct,rfl,-⟩:=Kd.Ap vN az;obtain ⟨⟨ht0,ht1,ht2,ht3,ht4,ht5⟩,Zz,-⟩:=tF vN a r yZ.out;have hf3:=Zz 3;have LR:w1.cell? ⟨gm,i * 9 + 6,none⟩=some (.slice (some ⟨gt,0,none⟩) x.f2.length ct):=hcells 6 _ rfl;have hc0:w1.cell? ⟨w.heap.size,0,none⟩=some (.int .u8 _):=(af (aA Dp.out hb1) 0).trans rfl;have hc2:w1.cell? ⟨w.heap.size,2,none⟩=some (.int .i64 a):=(af (aA Dp.out hb1) 2).trans rfl;have HBK:=ah.mk hback;have HR6:=ah.mk vN;clear hb1 hcells hback Jh vN Ji Zz)
  go_quiet (fail)
  go_wp2
  go_quiet (fail)
  go_wp2
  go_ret
  exact Jj HBK.out HR6.out (fU (Below.refl _ _) _) a r yZ.out 3 [.int .u8 1] (AR 3 due r) (by show 3 + 1≤6;omega) rfl
 ·go_enter Tryz.func59,Tryz.ntmps59
  go_wp2_with (go_at_call 104;refine HI.out.mono ?_;rintro e w1 ⟨rfl,hb1⟩;have zM:=ah.mk (wm.out.below hb1);obtain ⟨gm,cm,v2,v6,v7,qu,hv,hne,hcells,Jh,vN,Ji,hback⟩:=zM.out.Jg i x HX.out;injection hv with hv1 hv2 hv3;subst hv1 hv3;have RP:w1.cell? ⟨gq,1,none⟩=some (.slice (some ⟨gm,0,none⟩) ms.length cv):=(af zM.out.hq 1).trans rfl;obtain ⟨gt,ct,rfl,-⟩:=Kd.Ap vN az;obtain ⟨⟨ht0,ht1,ht2,ht3,ht4,ht5⟩,Zz,-⟩:=tF vN a r yZ.out;have hf3:=Zz 3;have LR:w1.cell? ⟨gm,i * 9 + 6,none⟩=some (.slice (some ⟨gt,0,none⟩) x.f2.length ct):=hcells 6 _ rfl;have hc0:w1.cell? ⟨w.heap.size,0,none⟩=some (.int .u8 _):=(af (aA Dp.out hb1) 0).trans rfl;have hc2:w1.cell? ⟨w.heap.size,2,none⟩=some (.int .i64 a):=(af (aA Dp.out hb1) 2).trans rfl;have HBK:=ah.mk hback;have HR6:=ah.mk vN;clear hb1 hcells hback Jh vN Ji Zz)
  go_quiet (fail)
  go_wp2
  go_quiet (fail)
  go_wp2
  go_ret
  exact Jj HBK.out HR6.out (fU (Below.refl _ _) _) a r yZ.out 3 [.int .u8 2] (AR 4 due r) (by show 3 + 1≤6;omega) rfl
end Go.Proofs.YtbjjaaodfbjkfaaGreatDoor.mU
