import Derived.Test.YtbjjaaodfbjkfaaGreatDoorEQue4
namespace Go.Proofs.YtbjjaaodfbjkfaaGreatDoor.qb
open Go.RowKit Go.Proofs.aj.bQ Go.Proofs.aj.dX Go.Proofs.aj.dJ
set_option linter.unusedVariables false
set_option linter.unusedSimpArgs false
theorem step_done {w0 w1 W:World} {gq gt n' ct:Nat} {n:Int} {v:Value} {ms:List Ml} {i:Nat} {x:Ml} {qx:Nat→Prop}
 (hbk:∀ w2 (tl:List Rc),w1.grownBy w2 (some gt)→Kd.R kRc 37 w2 w0.heap.size qx (.slice (some ⟨gt,0,none⟩) n' ct) tl→QW w0 w2 gq n v (ms.set i ⟨x.f0,x.f1,tl,x.f3,x.f4⟩))
 (Ae:Kd.R kRc 37 w1 w0.heap.size qx (.slice (some ⟨gt,0,none⟩) n' ct) x.f2) (hb:Below w1.heap.size w1 W) (a:Nat) (r:Rc) (hr:x.f2[a]? =some r)
 (j:Nat) (seg:List Value) (r':Rc) (hj:j + seg.length≤6) (he: [Value.string r.f0.f0,.string r.f0.f1,.bool r.f0.f2,.int .u8 r.f1,.int .i64 r.f2,.int .i64 r.f3].take j ++ seg ++ [Value.string r.f0.f0,.string r.f0.f1,.bool r.f0.f2,.int .u8 r.f1,.int .i64 r.f2,.int .i64 r.f3].drop (j + seg.length)= [Value.string r'.f0.f0,.string r'.f0.f1,.bool r'.f0.f2,.int .u8 r'.f1,.int .i64 r'.f2,.int .i64 r'.f3]):
 QW w0 (W.setCells gt (a * 6 + j) seg) gq n v (ms.set i ⟨x.f0,x.f1,x.f2.set a r',x.f3,x.f4⟩):=by
 obtain ⟨-,-,hs⟩:=u6 (Kd.aM Ae hb) a r hr
 obtain ⟨h1,h2⟩:=hs j seg r' hj he
 exact hbk _ _ (World.grownBy.trans (qE hb _) h2) h1
theorem FH {w0 w1 W:World} {gq gt n' ct:Nat} {n:Int} {v:Value} {ms:List Ml} {i:Nat} {x:Ml} {qx:Nat→Prop} {b:Bool}
 (hbk:∀ w2 (tl:List Rc),w1.grownBy w2 (some gt)→Kd.R kRc 37 w2 w0.heap.size qx (.slice (some ⟨gt,0,none⟩) n' ct) tl→QW w0 w2 gq n v (ms.set i ⟨x.f0,x.f1,tl,x.f3,x.f4⟩))
 (Ae:Kd.R kRc 37 w1 w0.heap.size qx (.slice (some ⟨gt,0,none⟩) n' ct) x.f2) (hb:Below w1.heap.size w1 W) (a:Nat) (r:Rc) (hr:x.f2[a]? =some r)
 (j:Nat) (seg:List Value) (r':Rc) (hj:j + seg.length≤6) (he: [Value.string r.f0.f0,.string r.f0.f1,.bool r.f0.f2,.int .u8 r.f1,.int .i64 r.f2,.int .i64 r.f3].take j ++ seg ++ [Value.string r.f0.f0,.string r.f0.f1,.bool r.f0.f2,.int .u8 r.f1,.int .i64 r.f2,.int .i64 r.f3].drop (j + seg.length)= [Value.string r'.f0.f0,.string r'.f0.f1,.bool r'.f0.f2,.int .u8 r'.f1,.int .i64 r'.f2,.int .i64 r'.f3]):
 FR w0 gq b n (ms.set i ⟨x.f0,x.f1,x.f2.set a r',x.f3,x.f4⟩) (.returned (.bool b)) (W.setCells gt (a * 6 + j) seg):=
 have hd:=step_done hbk Ae hb a r hr j seg r' hj he
 ⟨rfl,hd.bl,fun _ =>⟨_,hd⟩⟩
variable {w0 w:World} {gq:Nat} {n:Int} {v:Value} {ms:List Ml} {kind id at_ due:Int} {m:Ml} {A2:Option Addr} {c2:Nat} {A6:Option Addr} {c6:Nat} {A7:Option Addr} {c7:Nat}
set_option maxRecDepth 100000 in
set_option maxHeartbeats 8000000 in
theorem PA (hW:QW w0 w gq n v ms) (hk:kind=2∨kind=3∨kind=4) (i:Nat) (x:Ml) (hi:nH id ms 0=i) (hx:ms[i]? =some x) (a:Nat) (r:Rc) (hr:x.f2[a]? =some r) (hs:r.f1=0):
 Calls Tryz.prog 59 #[.pointer (some ⟨gq,0,none⟩),.agg (iT kind id (a:Int) due m A2 c2 A6 c6 A7 c7)] w (FR w0 gq (FE kind r) n (ms.set i ⟨x.f0,x.f1,x.f2.set a (xd kind due r),x.f3,x.f4⟩)):=by
 have hu1:=Tryz.underlying46
 have hu2:=Tryz.underlying40
 have hu3:=Tryz.underlying34
 have hu4:=Tryz.underlying37
 obtain ⟨Av,cv,rfl⟩:=Kd.ji hW.hs
 have hil:i < ms.length:=(List.getElem?_eq_some_iff.1 hx).1
 have yD:=ah.mk (hW.below (cW (Below.refl _ _) (.cells (iT kind id (a:Int) due m A2 c2 A6 c6 A7 c7) 46)))
 have hq1:(w.alloc (.cells (iT kind id (a:Int) due m A2 c2 A6 c6 A7 c7) 46)).cell? ⟨gq,1,none⟩=some (.slice Av ms.length cv):=(af yD.out.hq 1).trans rfl
 have HI:=ah.mk (wX ms id Av cv w.heap.size (w.alloc (.cells (iT kind id (a:Int) due m A2 c2 A6 c6 A7 c7) 46)) (Kd.gv yD.out.hs).2.2 ((af (l8 w _) 1).trans rfl))
 rw [hi] at HI
 have HX:=ah.mk hx
 have er:decide ((i:Int) < 0)=false:=decide_eq_false ay
 have PY:=ah.mk (l8 w (.cells (iT kind id (a:Int) due m A2 c2 A6 c6 A7 c7) 46))
 clear hW hi hx
 have hal:a < x.f2.length:=(List.getElem?_eq_some_iff.1 hr).1
 have Sp:=ah.mk hr
 have ea:decide ((x.f2.length:Int)≤(a:Int))=false:=decide_eq_false ay
 have es:(r.f1 != 0)=false:=by simpa using hs
 clear hr hs
 rcases hk with rfl|rfl|rfl
 ·go_enter Tryz.func59,Tryz.ntmps59
  go_wp2_with (go_at_call 104;refine HI.out.mono ?_;rintro e w1 ⟨rfl,hb1⟩;have I9:=ah.mk (yD.out.below hb1);obtain ⟨gm,cm,v2,v6,v7,qx,hv,hne,hcells,Zp,Ae,Zq,hback⟩:=I9.out.Sn i x HX.out;injection hv with hv1 hv2 hv3;subst hv1 hv3;have Zr:w1.cell? ⟨gq,1,none⟩=some (.slice (some ⟨gm,0,none⟩) ms.length cv):=(af I9.out.hq 1).trans rfl;obtain ⟨gt,ct,rfl,-⟩:=Kd.wV Ae ay;obtain ⟨⟨ht0,ht1,ht2,ht3,ht4,ht5⟩,Zt,-⟩:=u6 Ae a r Sp.out;have hf4:=Zt 4;have hf5:=Zt 5;have hc3:w1.cell? ⟨w.heap.size,3,none⟩=some (.int .i64 due):=(af (aC PY.out hb1) 3).trans rfl;have Ub:w1.cell? ⟨gm,i * 9 + 6,none⟩=some (.slice (some ⟨gt,0,none⟩) x.f2.length ct):=hcells 6 _ rfl;have hc0:w1.cell? ⟨w.heap.size,0,none⟩=some (.int .u8 _):=(af (aC PY.out hb1) 0).trans rfl;have hc2:w1.cell? ⟨w.heap.size,2,none⟩=some (.int .i64 a):=(af (aC PY.out hb1) 2).trans rfl;have HBK:=ah.mk hback;have HR6:=ah.mk Ae;clear hb1 hcells hback Zp Ae Zq Zt)
  go_quiet (fail)
  go_wp2
  go_quiet (fail)
  go_wp2
  go_region
  go_wp2
  go_ret
  exact FH HBK.out HR6.out (eF (Below.refl _ _) _) a r Sp.out 4 [.int .i64 (wrap64 (r.f2 + 1)),.int .i64 due] (xd 2 due r) (by show 4 + 2≤6;omega) rfl
 ·go_enter Tryz.func59,Tryz.ntmps59
  go_wp2_with (go_at_call 104;refine HI.out.mono ?_;rintro e w1 ⟨rfl,hb1⟩;have I9:=ah.mk (yD.out.below hb1);obtain ⟨gm,cm,v2,v6,v7,qx,hv,hne,hcells,Zp,Ae,Zq,hback⟩:=I9.out.Sn i x HX.out;injection hv with hv1 hv2 hv3;subst hv1 hv3;have Zr:w1.cell? ⟨gq,1,none⟩=some (.slice (some ⟨gm,0,none⟩) ms.length cv):=(af I9.out.hq 1).trans rfl;obtain ⟨gt,ct,rfl,-⟩:=Kd.wV Ae ay;obtain ⟨⟨ht0,ht1,ht2,ht3,ht4,ht5⟩,Zt,-⟩:=u6 Ae a r Sp.out;have hf3:=Zt 3;have Ub:w1.cell? ⟨gm,i * 9 + 6,none⟩=some (.slice (some ⟨gt,0,none⟩) x.f2.length ct):=hcells 6 _ rfl;have hc0:w1.cell? ⟨w.heap.size,0,none⟩=some (.int .u8 _):=(af (aC PY.out hb1) 0).trans rfl;have hc2:w1.cell? ⟨w.heap.size,2,none⟩=some (.int .i64 a):=(af (aC PY.out hb1) 2).trans rfl;have HBK:=ah.mk hback;have HR6:=ah.mk Ae;clear hb1 hcells hback Zp Ae Zq Zt)
  go_quiet (fail)
  go_wp2
  go_quiet (fail)
  go_wp2
  go_ret
  exact FH HBK.out HR6.out (eF (Below.refl _ _) _) a r Sp.out 3 [.int .u8 1] (xd 3 due r) (by show 3 + 1≤6;omega) rfl
 ·go_enter Tryz.func59,Tryz.ntmps59
  go_wp2_with (go_at_call 104;refine HI.out.mono ?_;rintro e w1 ⟨rfl,hb1⟩;have I9:=ah.mk (yD.out.below hb1);obtain ⟨gm,cm,v2,v6,v7,qx,hv,hne,hcells,Zp,Ae,Zq,hback⟩:=I9.out.Sn i x HX.out;injection hv with hv1 hv2 hv3;subst hv1 hv3;have Zr:w1.cell? ⟨gq,1,none⟩=some (.slice (some ⟨gm,0,none⟩) ms.length cv):=(af I9.out.hq 1).trans rfl;obtain ⟨gt,ct,rfl,-⟩:=Kd.wV Ae ay;obtain ⟨⟨ht0,ht1,ht2,ht3,ht4,ht5⟩,Zt,-⟩:=u6 Ae a r Sp.out;have hf3:=Zt 3;have Ub:w1.cell? ⟨gm,i * 9 + 6,none⟩=some (.slice (some ⟨gt,0,none⟩) x.f2.length ct):=hcells 6 _ rfl;have hc0:w1.cell? ⟨w.heap.size,0,none⟩=some (.int .u8 _):=(af (aC PY.out hb1) 0).trans rfl;have hc2:w1.cell? ⟨w.heap.size,2,none⟩=some (.int .i64 a):=(af (aC PY.out hb1) 2).trans rfl;have HBK:=ah.mk hback;have HR6:=ah.mk Ae;clear hb1 hcells hback Zp Ae Zq Zt)
  go_quiet (fail)
  go_wp2
  go_quiet (fail)
  go_wp2
  go_ret
  exact FH HBK.out HR6.out (eF (Below.refl _ _) _) a r Sp.out 3 [.int .u8 2] (xd 4 due r) (by show 3 + 1≤6;omega) rfl
end Go.Proofs.YtbjjaaodfbjkfaaGreatDoor.qb
