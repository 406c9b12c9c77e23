import Derived.Test.YtbjjaaodfbjkfaaGreatDoorEQue1
import Derived.Test.YtbjjaaodfbjkfaaGreatDoorQQux4
namespace Go.Proofs.YtbjjaaodfbjkfaaGreatDoor.mU
open Go.RowKit Go.Proofs.ak.bR Go.Proofs.ak.dz Go.Proofs.ak.cZ
set_option linter.unusedVariables false
set_option linter.unusedSimpArgs false
structure QW (w0 W:World) (gq:Nat) (n:Int) (v:Value) (ms:List Ml):Prop where
 bl:Below w0.heap.size w0 W
 hq:W.heap[gq]? =some (.cells #[.int .i64 n,v] 40 (0,0))
 ge:w0.heap.size≤gq
 hs:Kd.S KW 34 W w0.heap.size (fun _ =>True) v ms
theorem QW.below {w0 W W1:World} {gq:Nat} {n:Int} {v:Value} {ms:List Ml} (h:QW w0 W gq n v ms) (hb:Below W.heap.size W W1):QW w0 W1 gq n v ms:=
 ⟨jT h.bl h.bl.size hb,aA h.hq hb,h.ge,Kd.dY h.hs hb⟩
structure AW (w0 W:World) (gq gb:Nat) (n:Int) (v:Value) (ms:List Ml) (cs:Array Value):Prop extends QW w0 W gq n v ms where
 hb:W.heap[gb]? =some (.cells cs 34 (0,0))
theorem AW.below {w0 W W1:World} {gq gb:Nat} {n:Int} {v:Value} {ms:List Ml} {cs:Array Value} (h:AW w0 W gq gb n v ms cs) (hb:Below W.heap.size W W1):AW w0 W1 gq gb n v ms cs:=
 ⟨h.toQW.below hb,aA h.hb hb⟩
structure AO (w0 W:World) (gq gb:Nat) (n:Int) (v:Value) (ms:List Ml) (cs:Array Value) (N:Nat) (m:Ml) (v2 v6 v7:Value):Prop where
 bl:Below w0.heap.size w0 W
 hq:W.heap[gq]? =some (.cells #[.int .i64 n,v] 40 (0,0))
 hb:W.heap[gb]? =some (.cells cs 34 (0,0))
 ge:w0.heap.size≤gq
 hs:Kd.S KW 34 W w0.heap.size (fun k=>True∧¬ N≤k) v ms
 mm:KW.M W w0.heap.size (fun k=>N≤k) m [.int .i64 m.f0,.bool m.f1.f0,v2,.string m.f1.f2.f0,.string m.f1.f2.f1,.bool m.f1.f2.f2,v6,v7,.int .i64 m.f4]
 ne:∀ k,N≤k→some k≠v.ownBlock
theorem AW.own {w0 W W1:World} {gq gb:Nat} {n:Int} {v:Value} {ms:List Ml} {cs:Array Value} {m:Ml} {v2 v6 v7:Value} (h:AW w0 W gq gb n v ms cs) (N:Nat) (hN:N=W.heap.size) (hb:Below W.heap.size W W1)
 (h2:Kd.R Kd.string 9 W1 W.heap.size (fun _ =>True) v2 m.f1.f1) (h6:Kd.R sM 37 W1 W.heap.size (fun _ =>True) v6 m.f2) (h7:Kd.R (Kd.int .u8) 5 W1 W.heap.size (fun _ =>True) v7 m.f3):
 AO w0 W1 gq gb n v ms cs N m v2 v6 v7:=by
 subst hN
 exact {
  bl:=jT h.bl h.bl.size hb,
  hq:=aA h.hq hb,
  hb:=aA h.hb hb,
  ge:=h.ge,
  hs:=Kd.fB (Kd.zq h.hs hb) (fun k hk=>⟨trivial,by have:=hk.2;omega⟩),
  mm:=GR _ _ _ m (Kd.dX (Kd.dH (Kd.nI h2) (fun _ hk=>hk.2.1)) h.bl.size) (Kd.dX (Kd.dH (Kd.nI h6) (fun _ hk=>hk.2.1)) h.bl.size) (Kd.dX (Kd.dH (Kd.nI h7) (fun _ hk=>hk.2.1)) h.bl.size),
  ne:=fun k hk he=>by have:=Kd.qT h.hs k he.symm;omega}
theorem AO.alloc {w0 W:World} {gq gb:Nat} {n:Int} {v:Value} {ms:List Ml} {cs:Array Value} {N:Nat} {m:Ml} {v2 v6 v7:Value} (h:AO w0 W gq gb n v ms cs N m v2 v6 v7) (o:Obj):AO w0 (W.alloc o) gq gb n v ms cs N m v2 v6 v7:=
 ⟨b9 h.bl o,gM h.hq o,gM h.hb o,h.ge,Kd.Oa h.hs o,Kd.VF h.mm o,h.ne⟩
structure AP (w0 W:World) (gq gb:Nat) (n:Int) (v:Value) (cs:Array Value) (v1:Value) (ms:List Ml):Prop where
 bl:Below w0.heap.size w0 W
 hq:W.heap[gq]? =some (.cells #[.int .i64 n,v] 40 (0,0))
 hb:W.heap[gb]? =some (.cells cs 34 (0,0))
 ge:w0.heap.size≤gq
 hs:Kd.S KW 34 W w0.heap.size (fun _ =>True) v1 ms
theorem QW.put {w0 W:World} {gq:Nat} {n:Int} {v v1:Value} {ms:List Ml} (bl:Below w0.heap.size w0 W) (hq:W.heap[gq]? =some (.cells #[.int .i64 n,v] 40 (0,0))) (ge:w0.heap.size≤gq) (hs:Kd.S KW 34 W w0.heap.size (fun _ =>True) v1 ms):QW w0 (W.setCell ⟨gq,1,none⟩ v1) gq n v1 ms:=
 ⟨cC bl ge,aZ (cs:=#[.int .i64 n,v]) hq 1 _ rfl,ge,Kd.yg hs hq bC 1 _⟩
theorem QW.ahP {w0 W:World} {gq:Nat} {n:Int} {v:Value} {ms:List Ml} (h:QW w0 W gq n v ms) (n1:Int):QW w0 (W.setCell ⟨gq,0,none⟩ (.int .i64 n1)) gq n1 v ms:=
 ⟨cC h.bl h.ge,aZ (cs:=#[.int .i64 n,v]) h.hq 0 _ rfl,h.ge,Kd.yg h.hs h.hq bC 0 _⟩
theorem AO.app {w0 W W1:World} {gq gb:Nat} {n:Int} {v v1:Value} {ms:List Ml} {cs:Array Value} {N:Nat} {m:Ml} {v2 v6 v7:Value} (h:AO w0 W gq gb n v ms cs N m v2 v6 v7) (hne:some gb≠v.ownBlock)
 (ho:Kd.S KW 34 W1 w0.heap.size (fun _ =>True) v1 (ms ++ [m])) (hb:Below w0.heap.size w0 W1) (hg:W.grownBy W1 v.ownBlock):
 AP w0 W1 gq gb n v cs v1 (ms ++ [m]):=
 ⟨hb,fM h.hq hg (Kd.Mk h.hs h.hq bC),fM h.hb hg hne,h.ge,ho⟩
set_option maxRecDepth 100000 in
set_option maxHeartbeats 4000000 in
theorem FD.calls (m:Ml) (A2:Option Addr) (c2:Nat) (A6:Option Addr) (c6:Nat) (A7:Option Addr) (c7:Nat) (gq:Nat) (n:Int) (v:Value) (ms:List Ml) (w0 w:World) (hW:QW w0 w gq n v ms)
 (hr2:Kd.C Kd.string w A2 m.f1.f1.length m.f1.f1) (hc2:m.f1.f1.length≤c2) (hr6:Kd.C sM w A6 m.f2.length m.f2) (hc6:m.f2.length≤c6) (hr7:Kd.C (Kd.int .u8) w A7 m.f3.length m.f3) (qV:m.f3.length≤c7)
 (hown:iC.f m.f0 m.f1.f0 m.f1.f1 m.f1.f2.f0 m.f1.f2.f1 m.f1.f2.f2 m.f2 m.f3 m.f4=some (m.f0,m.f1.f0,m.f1.f1,m.f1.f2.f0,m.f1.f2.f1,m.f1.f2.f2,m.f2,m.f3,m.f4)) (hlen:(ms.length + 1) * 136≤140737488355328):
 Calls Tryz.prog 103 #[.pointer (some ⟨gq,0,none⟩),.agg #[.int .i64 m.f0,.bool m.f1.f0,.slice A2 m.f1.f1.length c2,.string m.f1.f2.f0,.string m.f1.f2.f1,.bool m.f1.f2.f2,.slice A6 m.f2.length c6,.slice A7 m.f3.length c7,.int .i64 m.f4]] w fun e w'=>e= .returned (.tuple #[])∧∃ v',QW w0 w' gq (wrap64 (m.f0 + 1)) v' (ms ++ [m]):=by
 have hu1:=Tryz.underlying34
 have hu2:=Tryz.underlying40
 have ayn:=ah.mk hlen
 have HW:=ah.mk (AW.below (AW.mk (hW.below (b9 (Below.refl _ _) (.cells #[.int .i64 m.f0,.bool m.f1.f0,.slice A2 m.f1.f1.length c2,.string m.f1.f2.f0,.string m.f1.f2.f1,.bool m.f1.f2.f2,.slice A6 m.f2.length c6,.slice A7 m.f3.length c7,.int .i64 m.f4] 34))) (jg w _)) (fS (Below.refl _ _)))
 have HO:=ah.mk (fun (W:World) (hb:Below w.heap.size w W)=>iC.calls m.f0 m.f1.f0 A2 c2 m.f1.f1 m.f1.f2.f0 m.f1.f2.f1 m.f1.f2.f2 A6 c6 m.f2 A7 c7 m.f3 m.f4 _ _ _ _ _ _ _ _ _ W (Kd.bQ hr2 hb) hc2 (Kd.bQ hr6 hb) hc6 (Kd.bQ hr7 hb) qV hown)
 have HGQ:=ah.mk (show gq≠w.heap.size from Nat.ne_of_lt (dQ hW.hq))
 have HN:=ah.mk (show some w.heap.size≠v.ownBlock from fun he=>by have:=Kd.qT hW.hs _ he.symm;omega)
 obtain ⟨N,hN⟩:∃ N:Nat,N=w.heap.size + 1:=⟨_,rfl⟩
 have HNN:=ah.mk hN
 clear hN
 clear hW hr2 hc2 hr6 hc6 hr7 qV hown hlen
 go_enter Tryz.func103,Tryz.ntmps103
 go_wp2_with fail
 refine kS (n:=12) (S:=fun w'=>w'.cell? ⟨gq,1,none⟩=some v∧w'.cell? ⟨w.heap.size,0,none⟩=some (.int .i64 m.f0)∧w'.cell? ⟨w.heap.size,1,none⟩=some (.bool m.f1.f0)∧w'.cell? ⟨w.heap.size,2,none⟩=some (.slice A2 m.f1.f1.length c2)∧w'.cell? ⟨w.heap.size,3,none⟩=some (.string m.f1.f2.f0)∧w'.cell? ⟨w.heap.size,4,none⟩=some (.string m.f1.f2.f1)∧w'.cell? ⟨w.heap.size,5,none⟩=some (.bool m.f1.f2.f2)∧w'.cell? ⟨w.heap.size,6,none⟩=some (.slice A6 m.f2.length c6)∧w'.cell? ⟨w.heap.size,7,none⟩=some (.slice A7 m.f3.length c7)∧w'.cell? ⟨w.heap.size,8,none⟩=some (.int .i64 m.f4)) (ds:=[11]) #[false,false,false,false,false,false,false,false,false,false,false,false] aq (by rfl) (by rfl) ⟨(af HW.out.hq 1).trans rfl,(af HW.out.hb 0).trans rfl,(af HW.out.hb 1).trans rfl,(af HW.out.hb 2).trans rfl,(af HW.out.hb 3).trans rfl,(af HW.out.hb 4).trans rfl,(af HW.out.hb 5).trans rfl,(af HW.out.hb 6).trans rfl,(af HW.out.hb 7).trans rfl,(af HW.out.hb 8).trans rfl⟩ (fun hHeld=>?_)
 refine aN (i:=0) (N:=some 4) (v:=?_) (a':=?_) #[true,false,false,false,false,false,false,false,false,false,false,false] rfl rfl aq (fun _ _ _ h=>h) (Or.inl ⟨by rfl,?_⟩) ?_ ?_
 rotate_left
 ·intro w'
  go_simp
  with_reducible rfl
 rotate_left
 ·simp only [Act.put,List.setIfInBounds_toArray,List.set_cons_zero,List.set_cons_succ,aV,aW]
  rfl
 refine aN (i:=1) (N:=some 5) (v:=?_) (a':=?_) #[true,true,false,false,false,false,false,false,false,false,false,false] rfl rfl aq (fun _ _ _ h=>h) (Or.inl ⟨by rfl,?_⟩) ?_ ?_
 rotate_left
 ·intro w'
  go_simp
  with_reducible rfl
 rotate_left
 ·simp only [Act.put,List.setIfInBounds_toArray,List.set_cons_zero,List.set_cons_succ,aV,aW]
  rfl
 refine aN (i:=2) (N:=some 6) (v:=?_) (a':=?_) #[true,true,true,false,false,false,false,false,false,false,false,false] rfl rfl aq (fun _ _ _ h=>h) (Or.inl ⟨by rfl,?_⟩) ?_ ?_
 rotate_left
 ·intro w'
  go_simp
  with_reducible rfl
 rotate_left
 ·simp only [Act.put,List.setIfInBounds_toArray,List.set_cons_zero,List.set_cons_succ,aV,aW]
  rfl
 refine aN (i:=3) (N:=some 7) (v:=?_) (a':=?_) #[true,true,true,true,false,false,false,false,false,false,false,false] rfl rfl aq (fun _ _ _ h=>h) (Or.inl ⟨by rfl,?_⟩) ?_ ?_
 rotate_left
 ·intro w'
  go_simp
  with_reducible rfl
 rotate_left
 ·simp only [Act.put,List.setIfInBounds_toArray,List.set_cons_zero,List.set_cons_succ,aV,aW]
  rfl
 refine fL (i:=4) (N:=some 8) (v:=?_) (a':=?_) #[true,true,true,true,true,false,false,false,false,false,false,false] rfl rfl aq (fun _ _ _ h=>h) (Or.inl ⟨by rfl,?_⟩) hHeld ?_ ?_
 rotate_left
 ·rintro w' ⟨s0,s1,s2,s3,s4,s5,s6,s7,s8,s9⟩
  go_simp
  with_reducible rfl
 rotate_left
 ·simp only [Act.put,List.setIfInBounds_toArray,List.set_cons_zero,List.set_cons_succ,aV,aW]
  rfl
 refine fL (i:=5) (N:=some 9) (v:=?_) (a':=?_) #[true,true,true,true,true,true,false,false,false,false,false,false] rfl rfl aq (fun _ _ _ h=>h) (Or.inl ⟨by rfl,?_⟩) hHeld ?_ ?_
 rotate_left
 ·rintro w' ⟨s0,s1,s2,s3,s4,s5,s6,s7,s8,s9⟩
  go_simp
  with_reducible rfl
 rotate_left
 ·simp only [Act.put,List.setIfInBounds_toArray,List.set_cons_zero,List.set_cons_succ,aV,aW]
  rfl
 refine nP (i:=6) (N:=some 10) #[true,true,true,true,true,true,true,false,false,false,false,false] rfl rfl aq bC (fun K hK=>?_)
 refine lF Tryz.func72 aq rfl #[.agg #[.int .i64 m.f0,.bool m.f1.f0,.slice A2 m.f1.f1.length c2,.string m.f1.f2.f0,.string m.f1.f2.f1,.bool m.f1.f2.f2,.slice A6 m.f2.length c6,.slice A7 m.f3.length c7,.int .i64 m.f4]] (by rfl) rfl rfl tZ ?_
 with_reducible refine (HO.out _ ?bn).mono ?_
 (case bn=>exact fS (b9 (Below.refl _ _) _))
 rintro e w3 ⟨Zk,RH,v7_,rfl,ho0,Fm,ES,hb⟩
 refine ⟨_,rfl,?_⟩
 have KZ:=ah.mk (AW.own HW.out N (HNN.out.trans cF) hb ho0 Fm ES)
 clear hb ho0 Fm ES
 refine hK.out _ _ ⟨(af KZ.out.hq 1).trans rfl,(af KZ.out.hb 0).trans rfl,(af KZ.out.hb 1).trans rfl,(af KZ.out.hb 2).trans rfl,(af KZ.out.hb 3).trans rfl,(af KZ.out.hb 4).trans rfl,(af KZ.out.hb 5).trans rfl,(af KZ.out.hb 6).trans rfl,(af KZ.out.hb 7).trans rfl,(af KZ.out.hb 8).trans rfl⟩ (fun hHeld=>?_)
 clear hK K
 refine ku (a':=?_) ?_ ?_
 rotate_left
 ·show Act.put _ (some 10) _=_
  simp only [Act.put,List.setIfInBounds_toArray,List.set_cons_zero,List.set_cons_succ,aV,aW]
  rfl
 refine nP (i:=7) (N:=some 11) #[true,true,true,true,true,true,true,true,false,false,false,false] rfl rfl aq bC (fun K hK=>?_)
 refine TA (w1:=?_) (v:=?_) (by rfl) rfl ?_ ?_
 rotate_left 2
 ·go_simp
  constructor
  ·rfl
  ·rfl
 have Vx:=ah.mk (AO.alloc KZ.out (.cells #[.int .i64 m.f0,.bool m.f1.f0,Zk,.string m.f1.f2.f0,.string m.f1.f2.f1,.bool m.f1.f2.f2,RH,v7_,.int .i64 m.f4] 34))
 refine hK.out _ _ ⟨(af Vx.out.hq 1).trans rfl,(af Vx.out.hb 0).trans rfl,(af Vx.out.hb 1).trans rfl,(af Vx.out.hb 2).trans rfl,(af Vx.out.hb 3).trans rfl,(af Vx.out.hb 4).trans rfl,(af Vx.out.hb 5).trans rfl,(af Vx.out.hb 6).trans rfl,(af Vx.out.hb 7).trans rfl,(af Vx.out.hb 8).trans rfl⟩ (fun hHeld=>?_)
 clear hK K
 refine ku (a':=?_) ?_ ?_
 rotate_left
 ·show Act.put _ (some 11) _=_
  simp only [Act.put,List.setIfInBounds_toArray,List.set_cons_zero,List.set_cons_succ,aV,aW]
  rfl
 refine nP (i:=8) (N:=some 12) #[true,true,true,true,true,true,true,true,true,false,false,false] rfl rfl aq bC (fun K hK=>?_)
 refine Kd.yh KW (w0:=w0) w0.heap.size (by rfl) (.tmp 8) (.tmp 11) 38 34 (.agg #[.int .i64 0,.bool false,.slice none 0 0,.string ⟨#[]⟩,.string ⟨#[]⟩,.bool false,.slice none 0 0,.slice none 0 0,.int .i64 0]) 136 rfl Tryz.underlying38 adv rfl bC az v ms m [.int .i64 m.f0,.bool m.f1.f0,Zk,.string m.f1.f2.f0,.string m.f1.f2.f1,.bool m.f1.f2.f2,RH,v7_,.int .i64 m.f4] (fun _ =>True) (fun k=>N≤k) (by first|(go_simp;done)|(go_simp;rfl)) (by first|(go_simp;done)|(go_simp;rfl)) KZ.out.mm (fun k hk=>⟨trivial,KZ.out.ne k hk⟩) (fun _ _ =>trivial) KZ.out.hs KZ.out.bl KZ.out.bl.size ayn.out ?_
 intro v1 w5 ho hb hg hat
 have FE:=ah.mk (AO.app KZ.out HN.out ho hb hg)
 obtain ⟨A9,c9,rfl⟩:=Kd.iH FE.out.hs
 have hc5:w5.cell? ⟨gq,1,none⟩=some v:=(af FE.out.hq 1).trans rfl
 have hf5:=aa FE.out.hq 1
 clear ho hb hg hat
 refine hK.out _ _ ⟨(af FE.out.hq 1).trans rfl,(af FE.out.hb 0).trans rfl,(af FE.out.hb 1).trans rfl,(af FE.out.hb 2).trans rfl,(af FE.out.hb 3).trans rfl,(af FE.out.hb 4).trans rfl,(af FE.out.hb 5).trans rfl,(af FE.out.hb 6).trans rfl,(af FE.out.hb 7).trans rfl,(af FE.out.hb 8).trans rfl⟩ (fun hHeld=>?_)
 clear hK K
 refine ku (a':=?_) ?_ ?_
 rotate_left
 ·show Act.put _ (some 12) _=_
  simp only [Act.put,List.setIfInBounds_toArray,List.set_cons_zero,List.set_cons_succ,aV,aW]
  rfl
 refine aN (i:=9) (N:=some 13) (v:=?_) (a':=?_) #[true,true,true,true,true,true,true,true,true,true,false,false] rfl rfl aq (fun _ _ _ h=>h) (Or.inl ⟨by rfl,?_⟩) ?_ ?_
 rotate_left
 ·intro w'
  go_simp
  with_reducible rfl
 rotate_left
 ·simp only [Act.put,List.setIfInBounds_toArray,List.set_cons_zero,List.set_cons_succ,aV,aW]
  rfl
 refine aN (i:=10) (N:=some 14) (v:=?_) (a':=?_) #[true,true,true,true,true,true,true,true,true,true,true,false] rfl rfl aq (fun _ _ _ h=>h) (Or.inl ⟨by rfl,?_⟩) ?_ ?_
 rotate_left
 ·intro w'
  go_simp
  with_reducible rfl
 rotate_left
 ·simp only [Act.put,List.setIfInBounds_toArray,List.set_cons_zero,List.set_cons_succ,aV,aW]
  rfl
 refine Kv (i:=11) (N:=none) #[true,true,true,true,true,true,true,true,true,true,true,true] rfl rfl aq bC (fun K hK=>?_)
 refine Kw (w1:=?_) (by rfl) rfl ?_ ?_
 rotate_left
 ·go_simp
  rfl
 refine hK.out _ _ ?_
 clear hK K
 refine nv aq ?_
 have HQ6:=ah.mk (QW.ahP (QW.put FE.out.bl FE.out.hq FE.out.ge FE.out.hs) (wrap64 (m.f0 + 1)))
 have hn1:=HGQ.out
 have hn2:=Ne.symm HGQ.out
 have tE:w5.cell? ⟨w.heap.size,0,none⟩=some (.int .i64 m.f0):=(af FE.out.hb 0).trans rfl
 have hq5:w5.cell? ⟨gq,0,none⟩=some (.int .i64 n):=(af FE.out.hq 0).trans rfl
 have aEs:=aa FE.out.hq 0
 go_wp2
 go_end0
 exact ⟨rfl,_,by have h:=HQ6.out;rw [List.length_append] at h;exact h⟩
end Go.Proofs.YtbjjaaodfbjkfaaGreatDoor.mU
