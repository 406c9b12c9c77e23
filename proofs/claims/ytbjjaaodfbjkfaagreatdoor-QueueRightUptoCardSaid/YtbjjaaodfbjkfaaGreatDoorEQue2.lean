import Derived.Test.YtbjjaaodfbjkfaaGreatDoorEQue1
import Derived.Test.YtbjjaaodfbjkfaaGreatDoorQQux4
namespace Go.Proofs.YtbjjaaodfbjkfaaGreatDoor.mN
open Go.RowKit Go.Proofs.ak.bQ Go.Proofs.ak.dA Go.Proofs.ak.cX
set_option linter.unusedVariables false
set_option linter.unusedSimpArgs false
structure QW (w0 W:World) (gq:Nat) (n:Int) (v:Value) (ms:List Ml):Prop where
 bl:Below w0.heap.size w0 W
 hq:W.heap[gq]? =some (.cells #[.int .i64 n,v] 40 (0,0))
 ge:w0.heap.size≤gq
 hs:Kd.S DT 34 W w0.heap.size (fun _ =>True) v ms
theorem QW.below {w0 W W1:World} {gq:Nat} {n:Int} {v:Value} {ms:List Ml} (h:QW w0 W gq n v ms) (hb:Below W.heap.size W W1):QW w0 W1 gq n v ms:=
 ⟨jI h.bl h.bl.size hb,az h.hq hb,h.ge,Kd.dX h.hs hb⟩
structure AW (w0 W:World) (gq gb:Nat) (n:Int) (v:Value) (ms:List Ml) (cs:Array Value):Prop extends QW w0 W gq n v ms where
 hb:W.heap[gb]? =some (.cells cs 34 (0,0))
theorem AW.below {w0 W W1:World} {gq gb:Nat} {n:Int} {v:Value} {ms:List Ml} {cs:Array Value} (h:AW w0 W gq gb n v ms cs) (hb:Below W.heap.size W W1):AW w0 W1 gq gb n v ms cs:=
 ⟨h.toQW.below hb,az h.hb hb⟩
structure AO (w0 W:World) (gq gb:Nat) (n:Int) (v:Value) (ms:List Ml) (cs:Array Value) (N:Nat) (m:Ml) (v2 v6 v7:Value):Prop where
 bl:Below w0.heap.size w0 W
 hq:W.heap[gq]? =some (.cells #[.int .i64 n,v] 40 (0,0))
 hb:W.heap[gb]? =some (.cells cs 34 (0,0))
 ge:w0.heap.size≤gq
 hs:Kd.S DT 34 W w0.heap.size (fun k=>True∧¬ N≤k) v ms
 mm:DT.M W w0.heap.size (fun k=>N≤k) m [.int .i64 m.f0,.bool m.f1.f0,v2,.string m.f1.f2.f0,.string m.f1.f2.f1,.bool m.f1.f2.f2,v6,v7,.int .i64 m.f4]
 ne:∀ k,N≤k→some k≠v.ownBlock
theorem AW.own {w0 W W1:World} {gq gb:Nat} {n:Int} {v:Value} {ms:List Ml} {cs:Array Value} {m:Ml} {v2 v6 v7:Value} (h:AW w0 W gq gb n v ms cs) (N:Nat) (hN:N=W.heap.size) (hb:Below W.heap.size W W1)
 (h2:Kd.R Kd.string 9 W1 W.heap.size (fun _ =>True) v2 m.f1.f1) (h6:Kd.R tq 37 W1 W.heap.size (fun _ =>True) v6 m.f2) (h7:Kd.R (Kd.int .u8) 5 W1 W.heap.size (fun _ =>True) v7 m.f3):
 AO w0 W1 gq gb n v ms cs N m v2 v6 v7:=by
 subst hN
 exact {
  bl:=jI h.bl h.bl.size hb,
  hq:=az h.hq hb,
  hb:=az h.hb hb,
  ge:=h.ge,
  hs:=Kd.fB (Kd.yE h.hs hb) (fun k hk=>⟨trivial,by have:=hk.2;omega⟩),
  mm:=Cb _ _ _ m (Kd.dW (Kd.dH (Kd.nC h2) (fun _ hk=>hk.2.1)) h.bl.size) (Kd.dW (Kd.dH (Kd.nC h6) (fun _ hk=>hk.2.1)) h.bl.size) (Kd.dW (Kd.dH (Kd.nC h7) (fun _ hk=>hk.2.1)) h.bl.size),
  ne:=fun k hk he=>by have:=Kd.qR h.hs k he.symm;omega}
theorem AO.alloc {w0 W:World} {gq gb:Nat} {n:Int} {v:Value} {ms:List Ml} {cs:Array Value} {N:Nat} {m:Ml} {v2 v6 v7:Value} (h:AO w0 W gq gb n v ms cs N m v2 v6 v7) (o:Obj):AO w0 (W.alloc o) gq gb n v ms cs N m v2 v6 v7:=
 ⟨bW h.bl o,gG h.hq o,gG h.hb o,h.ge,Kd.Nh h.hs o,Kd.UO h.mm o,h.ne⟩
structure AP (w0 W:World) (gq gb:Nat) (n:Int) (v:Value) (cs:Array Value) (v1:Value) (ms:List Ml):Prop where
 bl:Below w0.heap.size w0 W
 hq:W.heap[gq]? =some (.cells #[.int .i64 n,v] 40 (0,0))
 hb:W.heap[gb]? =some (.cells cs 34 (0,0))
 ge:w0.heap.size≤gq
 hs:Kd.S DT 34 W w0.heap.size (fun _ =>True) v1 ms
theorem QW.put {w0 W:World} {gq:Nat} {n:Int} {v v1:Value} {ms:List Ml} (bl:Below w0.heap.size w0 W) (hq:W.heap[gq]? =some (.cells #[.int .i64 n,v] 40 (0,0))) (ge:w0.heap.size≤gq) (hs:Kd.S DT 34 W w0.heap.size (fun _ =>True) v1 ms):QW w0 (W.setCell ⟨gq,1,none⟩ v1) gq n v1 ms:=
 ⟨cG bl ge,aZ (cs:=#[.int .i64 n,v]) hq 1 _ rfl,ge,Kd.Bl hs hq bB 1 _⟩
theorem QW.agz {w0 W:World} {gq:Nat} {n:Int} {v:Value} {ms:List Ml} (h:QW w0 W gq n v ms) (n1:Int):QW w0 (W.setCell ⟨gq,0,none⟩ (.int .i64 n1)) gq n1 v ms:=
 ⟨cG h.bl h.ge,aZ (cs:=#[.int .i64 n,v]) h.hq 0 _ rfl,h.ge,Kd.Bl h.hs h.hq bB 0 _⟩
theorem AO.app {w0 W W1:World} {gq gb:Nat} {n:Int} {v v1:Value} {ms:List Ml} {cs:Array Value} {N:Nat} {m:Ml} {v2 v6 v7:Value} (h:AO w0 W gq gb n v ms cs N m v2 v6 v7) (hne:some gb≠v.ownBlock)
 (ho:Kd.S DT 34 W1 w0.heap.size (fun _ =>True) v1 (ms ++ [m])) (hb:Below w0.heap.size w0 W1) (hg:W.grownBy W1 v.ownBlock):
 AP w0 W1 gq gb n v cs v1 (ms ++ [m]):=
 ⟨hb,fG h.hq hg (Kd.Lj h.hs h.hq bB),fG h.hb hg hne,h.ge,ho⟩
set_option maxRecDepth 100000 in
set_option maxHeartbeats 4000000 in
theorem Fe.calls (m:Ml) (A2:Option Addr) (c2:Nat) (A6:Option Addr) (c6:Nat) (A7:Option Addr) (c7:Nat) (gq:Nat) (n:Int) (v:Value) (ms:List Ml) (w0 w:World) (hW:QW w0 w gq n v ms)
 (hr2:Kd.C Kd.string w A2 m.f1.f1.length m.f1.f1) (hc2:m.f1.f1.length≤c2) (hr6:Kd.C tq w A6 m.f2.length m.f2) (hc6:m.f2.length≤c6) (hr7:Kd.C (Kd.int .u8) w A7 m.f3.length m.f3) (qU:m.f3.length≤c7)
 (hown:iz.f m.f0 m.f1.f0 m.f1.f1 m.f1.f2.f0 m.f1.f2.f1 m.f1.f2.f2 m.f2 m.f3 m.f4=some (m.f0,m.f1.f0,m.f1.f1,m.f1.f2.f0,m.f1.f2.f1,m.f1.f2.f2,m.f2,m.f3,m.f4)) (hlen:(ms.length + 1) * 136≤140737488355328):
 Calls Tryz.prog 103 #[.pointer (some ⟨gq,0,none⟩),.agg #[.int .i64 m.f0,.bool m.f1.f0,.slice A2 m.f1.f1.length c2,.string m.f1.f2.f0,.string m.f1.f2.f1,.bool m.f1.f2.f2,.slice A6 m.f2.length c6,.slice A7 m.f3.length c7,.int .i64 m.f4]] w fun e w'=>e= .returned (.tuple #[])∧∃ v',QW w0 w' gq (wrap64 (m.f0 + 1)) v' (ms ++ [m]):=by
 have hu1:=Tryz.underlying34
 have hu2:=Tryz.underlying40
 have aw7:=ah.mk hlen
 have HW:=ah.mk (AW.below (AW.mk (hW.below (bW (Below.refl _ _) (.cells #[.int .i64 m.f0,.bool m.f1.f0,.slice A2 m.f1.f1.length c2,.string m.f1.f2.f0,.string m.f1.f2.f1,.bool m.f1.f2.f2,.slice A6 m.f2.length c6,.slice A7 m.f3.length c7,.int .i64 m.f4] 34))) (iE w _)) (fW (Below.refl _ _)))
 have HO:=ah.mk (fun (W:World) (hb:Below w.heap.size w W)=>iz.calls m.f0 m.f1.f0 A2 c2 m.f1.f1 m.f1.f2.f0 m.f1.f2.f1 m.f1.f2.f2 A6 c6 m.f2 A7 c7 m.f3 m.f4 _ _ _ _ _ _ _ _ _ W (Kd.bD hr2 hb) hc2 (Kd.bD hr6 hb) hc6 (Kd.bD hr7 hb) qU hown)
 have HGQ:=ah.mk (show gq≠w.heap.size from Nat.ne_of_lt (dQ hW.hq))
 have HN:=ah.mk (show some w.heap.size≠v.ownBlock from fun he=>by have:=Kd.qR hW.hs _ he.symm;omega)
 obtain ⟨N,hN⟩:∃ N:Nat,N=w.heap.size + 1:=⟨_,rfl⟩
 have HNN:=ah.mk hN
 clear hN
 clear hW hr2 hc2 hr6 hc6 hr7 qU hown hlen
 go_enter Tryz.func103,Tryz.ntmps103
 go_wp2_with fail
 refine kK (n:=12) (S:=fun w'=>w'.cell? ⟨gq,1,none⟩=some v∧w'.cell? ⟨w.heap.size,0,none⟩=some (.int .i64 m.f0)∧w'.cell? ⟨w.heap.size,1,none⟩=some (.bool m.f1.f0)∧w'.cell? ⟨w.heap.size,2,none⟩=some (.slice A2 m.f1.f1.length c2)∧w'.cell? ⟨w.heap.size,3,none⟩=some (.string m.f1.f2.f0)∧w'.cell? ⟨w.heap.size,4,none⟩=some (.string m.f1.f2.f1)∧w'.cell? ⟨w.heap.size,5,none⟩=some (.bool m.f1.f2.f2)∧w'.cell? ⟨w.heap.size,6,none⟩=some (.slice A6 m.f2.length c6)∧w'.cell? ⟨w.heap.size,7,none⟩=some (.slice A7 m.f3.length c7)∧w'.cell? ⟨w.heap.size,8,none⟩=some (.int .i64 m.f4)) (ds:=[11]) #[false,false,false,false,false,false,false,false,false,false,false,false] aq (by rfl) (by rfl) ⟨(af HW.out.hq 1).trans rfl,(af HW.out.hb 0).trans rfl,(af HW.out.hb 1).trans rfl,(af HW.out.hb 2).trans rfl,(af HW.out.hb 3).trans rfl,(af HW.out.hb 4).trans rfl,(af HW.out.hb 5).trans rfl,(af HW.out.hb 6).trans rfl,(af HW.out.hb 7).trans rfl,(af HW.out.hb 8).trans rfl⟩ (fun hHeld=>?_)
 refine aN (i:=0) (N:=some 4) (v:=?_) (a':=?_) #[true,false,false,false,false,false,false,false,false,false,false,false] rfl rfl aq (fun _ _ _ h=>h) (Or.inl ⟨by rfl,?_⟩) ?_ ?_
 rotate_left
 ·intro w'
  go_simp
  with_reducible rfl
 rotate_left
 ·simp only [Act.put,List.setIfInBounds_toArray,List.set_cons_zero,List.set_cons_succ,aU,aV]
  rfl
 refine aN (i:=1) (N:=some 5) (v:=?_) (a':=?_) #[true,true,false,false,false,false,false,false,false,false,false,false] rfl rfl aq (fun _ _ _ h=>h) (Or.inl ⟨by rfl,?_⟩) ?_ ?_
 rotate_left
 ·intro w'
  go_simp
  with_reducible rfl
 rotate_left
 ·simp only [Act.put,List.setIfInBounds_toArray,List.set_cons_zero,List.set_cons_succ,aU,aV]
  rfl
 refine aN (i:=2) (N:=some 6) (v:=?_) (a':=?_) #[true,true,true,false,false,false,false,false,false,false,false,false] rfl rfl aq (fun _ _ _ h=>h) (Or.inl ⟨by rfl,?_⟩) ?_ ?_
 rotate_left
 ·intro w'
  go_simp
  with_reducible rfl
 rotate_left
 ·simp only [Act.put,List.setIfInBounds_toArray,List.set_cons_zero,List.set_cons_succ,aU,aV]
  rfl
 refine aN (i:=3) (N:=some 7) (v:=?_) (a':=?_) #[true,true,true,true,false,false,false,false,false,false,false,false] rfl rfl aq (fun _ _ _ h=>h) (Or.inl ⟨by rfl,?_⟩) ?_ ?_
 rotate_left
 ·intro w'
  go_simp
  with_reducible rfl
 rotate_left
 ·simp only [Act.put,List.setIfInBounds_toArray,List.set_cons_zero,List.set_cons_succ,aU,aV]
  rfl
 refine fN (i:=4) (N:=some 8) (v:=?_) (a':=?_) #[true,true,true,true,true,false,false,false,false,false,false,false] rfl rfl aq (fun _ _ _ h=>h) (Or.inl ⟨by rfl,?_⟩) hHeld ?_ ?_
 rotate_left
 ·rintro w' ⟨s0,s1,s2,s3,s4,s5,s6,s7,s8,s9⟩
  go_simp
  with_reducible rfl
 rotate_left
 ·simp only [Act.put,List.setIfInBounds_toArray,List.set_cons_zero,List.set_cons_succ,aU,aV]
  rfl
 refine fN (i:=5) (N:=some 9) (v:=?_) (a':=?_) #[true,true,true,true,true,true,false,false,false,false,false,false] rfl rfl aq (fun _ _ _ h=>h) (Or.inl ⟨by rfl,?_⟩) hHeld ?_ ?_
 rotate_left
 ·rintro w' ⟨s0,s1,s2,s3,s4,s5,s6,s7,s8,s9⟩
  go_simp
  with_reducible rfl
 rotate_left
 ·simp only [Act.put,List.setIfInBounds_toArray,List.set_cons_zero,List.set_cons_succ,aU,aV]
  rfl
 refine nL (i:=6) (N:=some 10) #[true,true,true,true,true,true,true,false,false,false,false,false] rfl rfl aq bB (fun K hK=>?_)
 refine lg Tryz.func72 aq rfl #[.agg #[.int .i64 m.f0,.bool m.f1.f0,.slice A2 m.f1.f1.length c2,.string m.f1.f2.f0,.string m.f1.f2.f1,.bool m.f1.f2.f2,.slice A6 m.f2.length c6,.slice A7 m.f3.length c7,.int .i64 m.f4]] (by rfl) rfl rfl tT ?_
 with_reducible refine (HO.out _ ?bk).mono ?_
 (case bk=>exact fW (bW (Below.refl _ _) _))
 rintro e w3 ⟨Yo,QI,v7_,rfl,ho0,EZ,EA,hb⟩
 refine ⟨_,rfl,?_⟩
 have Kk:=ah.mk (AW.own HW.out N (HNN.out.trans cP) hb ho0 EZ EA)
 clear hb ho0 EZ EA
 refine hK.out _ _ ⟨(af Kk.out.hq 1).trans rfl,(af Kk.out.hb 0).trans rfl,(af Kk.out.hb 1).trans rfl,(af Kk.out.hb 2).trans rfl,(af Kk.out.hb 3).trans rfl,(af Kk.out.hb 4).trans rfl,(af Kk.out.hb 5).trans rfl,(af Kk.out.hb 6).trans rfl,(af Kk.out.hb 7).trans rfl,(af Kk.out.hb 8).trans rfl⟩ (fun hHeld=>?_)
 clear hK K
 refine jW (a':=?_) ?_ ?_
 rotate_left
 ·show Act.put _ (some 10) _=_
  simp only [Act.put,List.setIfInBounds_toArray,List.set_cons_zero,List.set_cons_succ,aU,aV]
  rfl
 refine nL (i:=7) (N:=some 11) #[true,true,true,true,true,true,true,true,false,false,false,false] rfl rfl aq bB (fun K hK=>?_)
 refine SF (w1:=?_) (v:=?_) (by rfl) rfl ?_ ?_
 rotate_left 2
 ·go_simp
  constructor
  ·rfl
  ·rfl
 have RH:=ah.mk (AO.alloc Kk.out (.cells #[.int .i64 m.f0,.bool m.f1.f0,Yo,.string m.f1.f2.f0,.string m.f1.f2.f1,.bool m.f1.f2.f2,QI,v7_,.int .i64 m.f4] 34))
 refine hK.out _ _ ⟨(af RH.out.hq 1).trans rfl,(af RH.out.hb 0).trans rfl,(af RH.out.hb 1).trans rfl,(af RH.out.hb 2).trans rfl,(af RH.out.hb 3).trans rfl,(af RH.out.hb 4).trans rfl,(af RH.out.hb 5).trans rfl,(af RH.out.hb 6).trans rfl,(af RH.out.hb 7).trans rfl,(af RH.out.hb 8).trans rfl⟩ (fun hHeld=>?_)
 clear hK K
 refine jW (a':=?_) ?_ ?_
 rotate_left
 ·show Act.put _ (some 11) _=_
  simp only [Act.put,List.setIfInBounds_toArray,List.set_cons_zero,List.set_cons_succ,aU,aV]
  rfl
 refine nL (i:=8) (N:=some 12) #[true,true,true,true,true,true,true,true,true,false,false,false] rfl rfl aq bB (fun K hK=>?_)
 refine Kd.xx DT (w0:=w0) w0.heap.size (by rfl) (.tmp 8) (.tmp 11) 38 34 (.agg #[.int .i64 0,.bool false,.slice none 0 0,.string ⟨#[]⟩,.string ⟨#[]⟩,.bool false,.slice none 0 0,.slice none 0 0,.int .i64 0]) 136 rfl Tryz.underlying38 ab8 rfl bB aA v ms m [.int .i64 m.f0,.bool m.f1.f0,Yo,.string m.f1.f2.f0,.string m.f1.f2.f1,.bool m.f1.f2.f2,QI,v7_,.int .i64 m.f4] (fun _ =>True) (fun k=>N≤k) (by first|(go_simp;done)|(go_simp;rfl)) (by first|(go_simp;done)|(go_simp;rfl)) Kk.out.mm (fun k hk=>⟨trivial,Kk.out.ne k hk⟩) (fun _ _ =>trivial) Kk.out.hs Kk.out.bl Kk.out.bl.size aw7.out ?_
 intro v1 w5 ho hb hg hat
 have Ff:=ah.mk (AO.app Kk.out HN.out ho hb hg)
 obtain ⟨A9,c9,rfl⟩:=Kd.iF Ff.out.hs
 have hc5:w5.cell? ⟨gq,1,none⟩=some v:=(af Ff.out.hq 1).trans rfl
 have hf5:=aa Ff.out.hq 1
 clear ho hb hg hat
 refine hK.out _ _ ⟨(af Ff.out.hq 1).trans rfl,(af Ff.out.hb 0).trans rfl,(af Ff.out.hb 1).trans rfl,(af Ff.out.hb 2).trans rfl,(af Ff.out.hb 3).trans rfl,(af Ff.out.hb 4).trans rfl,(af Ff.out.hb 5).trans rfl,(af Ff.out.hb 6).trans rfl,(af Ff.out.hb 7).trans rfl,(af Ff.out.hb 8).trans rfl⟩ (fun hHeld=>?_)
 clear hK K
 refine jW (a':=?_) ?_ ?_
 rotate_left
 ·show Act.put _ (some 12) _=_
  simp only [Act.put,List.setIfInBounds_toArray,List.set_cons_zero,List.set_cons_succ,aU,aV]
  rfl
 refine aN (i:=9) (N:=some 13) (v:=?_) (a':=?_) #[true,true,true,true,true,true,true,true,true,true,false,false] rfl rfl aq (fun _ _ _ h=>h) (Or.inl ⟨by rfl,?_⟩) ?_ ?_
 rotate_left
 ·intro w'
  go_simp
  with_reducible rfl
 rotate_left
 ·simp only [Act.put,List.setIfInBounds_toArray,List.set_cons_zero,List.set_cons_succ,aU,aV]
  rfl
 refine aN (i:=10) (N:=some 14) (v:=?_) (a':=?_) #[true,true,true,true,true,true,true,true,true,true,true,false] rfl rfl aq (fun _ _ _ h=>h) (Or.inl ⟨by rfl,?_⟩) ?_ ?_
 rotate_left
 ·intro w'
  go_simp
  with_reducible rfl
 rotate_left
 ·simp only [Act.put,List.setIfInBounds_toArray,List.set_cons_zero,List.set_cons_succ,aU,aV]
  rfl
 refine JO (i:=11) (N:=none) #[true,true,true,true,true,true,true,true,true,true,true,true] rfl rfl aq bB (fun K hK=>?_)
 refine JP (w1:=?_) (by rfl) rfl ?_ ?_
 rotate_left
 ·go_simp
  rfl
 refine hK.out _ _ ?_
 clear hK K
 refine nk aq ?_
 have HQ6:=ah.mk (QW.agz (QW.put Ff.out.bl Ff.out.hq Ff.out.ge Ff.out.hs) (wrap64 (m.f0 + 1)))
 have hn1:=HGQ.out
 have hn2:=Ne.symm HGQ.out
 have tL:w5.cell? ⟨w.heap.size,0,none⟩=some (.int .i64 m.f0):=(af Ff.out.hb 0).trans rfl
 have hq5:w5.cell? ⟨gq,0,none⟩=some (.int .i64 n):=(af Ff.out.hq 0).trans rfl
 have aCT:=aa Ff.out.hq 0
 go_wp2
 go_end0
 exact ⟨rfl,_,by have h:=HQ6.out;rw [List.length_append] at h;exact h⟩
end Go.Proofs.YtbjjaaodfbjkfaaGreatDoor.mN
