import Derived.Test.YtbjjaaodfbjkfaaGreatDoorEQue1
import Derived.Test.YtbjjaaodfbjkfaaGreatDoorQQux4
namespace Go.Proofs.YtbjjaaodfbjkfaaGreatDoor.qb
open Go.RowKit Go.Proofs.aj.bQ Go.Proofs.aj.dX Go.Proofs.aj.dJ
set_option linter.unusedVariables false
set_option linter.unusedSimpArgs false
structure QW (w0 W:World) (gq:Nat) (n:Int) (v:Value) (ms:List Ml):Prop where
 bl:Below w0.heap.size w0 W
 hq:W.heap[gq]? =some (.cells #[.int .i64 n,v] 40 (0,0))
 ge:w0.heap.size≤gq
 hs:Kd.S R9 34 W w0.heap.size (fun _ =>True) v ms
theorem QW.below {w0 W W1:World} {gq:Nat} {n:Int} {v:Value} {ms:List Ml} (h:QW w0 W gq n v ms) (hb:Below W.heap.size W W1):QW w0 W1 gq n v ms:=
 ⟨jD h.bl h.bl.size hb,aC h.hq hb,h.ge,Kd.kL h.hs hb⟩
structure AW (w0 W:World) (gq gb:Nat) (n:Int) (v:Value) (ms:List Ml) (cs:Array Value):Prop extends QW w0 W gq n v ms where
 hb:W.heap[gb]? =some (.cells cs 34 (0,0))
theorem AW.below {w0 W W1:World} {gq gb:Nat} {n:Int} {v:Value} {ms:List Ml} {cs:Array Value} (h:AW w0 W gq gb n v ms cs) (hb:Below W.heap.size W W1):AW w0 W1 gq gb n v ms cs:=
 ⟨h.toQW.below hb,aC h.hb hb⟩
structure AO (w0 W:World) (gq gb:Nat) (n:Int) (v:Value) (ms:List Ml) (cs:Array Value) (N:Nat) (m:Ml) (v2 v6 v7:Value):Prop where
 bl:Below w0.heap.size w0 W
 hq:W.heap[gq]? =some (.cells #[.int .i64 n,v] 40 (0,0))
 hb:W.heap[gb]? =some (.cells cs 34 (0,0))
 ge:w0.heap.size≤gq
 hs:Kd.S R9 34 W w0.heap.size (fun k=>True∧¬ N≤k) v ms
 mm:R9.M W w0.heap.size (fun k=>N≤k) m [.int .i64 m.f0,.bool m.f1.f0,v2,.string m.f1.f2.f0,.string m.f1.f2.f1,.bool m.f1.f2.f2,v6,v7,.int .i64 m.f4]
 ne:∀ k,N≤k→some k≠v.ownBlock
theorem AW.own {w0 W W1:World} {gq gb:Nat} {n:Int} {v:Value} {ms:List Ml} {cs:Array Value} {m:Ml} {v2 v6 v7:Value} (h:AW w0 W gq gb n v ms cs) (N:Nat) (hN:N=W.heap.size) (hb:Below W.heap.size W W1)
 (h2:Kd.R Kd.string 9 W1 W.heap.size (fun _ =>True) v2 m.f1.f1) (h6:Kd.R mV 37 W1 W.heap.size (fun _ =>True) v6 m.f2) (h7:Kd.R (Kd.int .u8) 5 W1 W.heap.size (fun _ =>True) v7 m.f3):
 AO w0 W1 gq gb n v ms cs N m v2 v6 v7:=by
 subst hN
 exact {
  bl:=jD h.bl h.bl.size hb,
  hq:=aC h.hq hb,
  hb:=aC h.hb hb,
  ge:=h.ge,
  hs:=Kd.kB (Kd.QK h.hs hb) (fun k hk=>⟨trivial,by have:=hk.2;omega⟩),
  mm:=Dc _ _ _ m (Kd.cN (Kd.cu (Kd.l9 h2) (fun _ hk=>hk.2.1)) h.bl.size) (Kd.cN (Kd.cu (Kd.l9 h6) (fun _ hk=>hk.2.1)) h.bl.size) (Kd.cN (Kd.cu (Kd.l9 h7) (fun _ hk=>hk.2.1)) h.bl.size),
  ne:=fun k hk he=>by have:=Kd.O8 h.hs k he.symm;omega}
theorem AO.alloc {w0 W:World} {gq gb:Nat} {n:Int} {v:Value} {ms:List Ml} {cs:Array Value} {N:Nat} {m:Ml} {v2 v6 v7:Value} (h:AO w0 W gq gb n v ms cs N m v2 v6 v7) (o:Obj):AO w0 (W.alloc o) gq gb n v ms cs N m v2 v6 v7:=
 ⟨cW h.bl o,iL h.hq o,iL h.hb o,h.ge,Kd.Lb h.hs o,Kd.Ui h.mm o,h.ne⟩
structure AP (w0 W:World) (gq gb:Nat) (n:Int) (v:Value) (cs:Array Value) (v1:Value) (ms:List Ml):Prop where
 bl:Below w0.heap.size w0 W
 hq:W.heap[gq]? =some (.cells #[.int .i64 n,v] 40 (0,0))
 hb:W.heap[gb]? =some (.cells cs 34 (0,0))
 ge:w0.heap.size≤gq
 hs:Kd.S R9 34 W w0.heap.size (fun _ =>True) v1 ms
theorem QW.put {w0 W:World} {gq:Nat} {n:Int} {v v1:Value} {ms:List Ml} (bl:Below w0.heap.size w0 W) (hq:W.heap[gq]? =some (.cells #[.int .i64 n,v] 40 (0,0))) (ge:w0.heap.size≤gq) (hs:Kd.S R9 34 W w0.heap.size (fun _ =>True) v1 ms):QW w0 (W.setCell ⟨gq,1,none⟩ v1) gq n v1 ms:=
 ⟨dN bl ge,aH (cs:=#[.int .i64 n,v]) hq 1 _ rfl,ge,Kd.zQ hs hq bE 1 _⟩
theorem QW.aja {w0 W:World} {gq:Nat} {n:Int} {v:Value} {ms:List Ml} (h:QW w0 W gq n v ms) (n1:Int):QW w0 (W.setCell ⟨gq,0,none⟩ (.int .i64 n1)) gq n1 v ms:=
 ⟨dN h.bl h.ge,aH (cs:=#[.int .i64 n,v]) h.hq 0 _ rfl,h.ge,Kd.zQ h.hs h.hq bE 0 _⟩
theorem AO.app {w0 W W1:World} {gq gb:Nat} {n:Int} {v v1:Value} {ms:List Ml} {cs:Array Value} {N:Nat} {m:Ml} {v2 v6 v7:Value} (h:AO w0 W gq gb n v ms cs N m v2 v6 v7) (hne:some gb≠v.ownBlock)
 (ho:Kd.S R9 34 W1 w0.heap.size (fun _ =>True) v1 (ms ++ [m])) (hb:Below w0.heap.size w0 W1) (hg:W.grownBy W1 v.ownBlock):
 AP w0 W1 gq gb n v cs v1 (ms ++ [m]):=
 ⟨hb,gZ h.hq hg (Kd.Um h.hs h.hq bE),gZ h.hb hg hne,h.ge,ho⟩
set_option maxRecDepth 100000 in
set_option maxHeartbeats 4000000 in
theorem Pw.calls (m:Ml) (A2:Option Addr) (c2:Nat) (A6:Option Addr) (c6:Nat) (A7:Option Addr) (c7:Nat) (gq:Nat) (n:Int) (v:Value) (ms:List Ml) (w0 w:World) (hW:QW w0 w gq n v ms)
 (hr2:Kd.C Kd.string w A2 m.f1.f1.length m.f1.f1) (hc2:m.f1.f1.length≤c2) (hr6:Kd.C mV w A6 m.f2.length m.f2) (hc6:m.f2.length≤c6) (hr7:Kd.C (Kd.int .u8) w A7 m.f3.length m.f3) (hc7:m.f3.length≤c7)
 (hown:iB.f m.f0 m.f1.f0 m.f1.f1 m.f1.f2.f0 m.f1.f2.f1 m.f1.f2.f2 m.f2 m.f3 m.f4=some (m.f0,m.f1.f0,m.f1.f1,m.f1.f2.f0,m.f1.f2.f1,m.f1.f2.f2,m.f2,m.f3,m.f4)) (hlen:(ms.length + 1) * 136≤140737488355328):
 Calls Tryz.prog 103 #[.pointer (some ⟨gq,0,none⟩),.agg #[.int .i64 m.f0,.bool m.f1.f0,.slice A2 m.f1.f1.length c2,.string m.f1.f2.f0,.string m.f1.f2.f1,.bool m.f1.f2.f2,.slice A6 m.f2.length c6,.slice A7 m.f3.length c7,.int .i64 m.f4]] w fun e w'=>e= .returned (.tuple #[])∧∃ v',QW w0 w' gq (wrap64 (m.f0 + 1)) v' (ms ++ [m]):=by
 have hu1:=Tryz.underlying34
 have hu2:=Tryz.underlying40
 have aBX:=ah.mk hlen
 have HW:=ah.mk (AW.below (AW.mk (hW.below (cW (Below.refl _ _) (.cells #[.int .i64 m.f0,.bool m.f1.f0,.slice A2 m.f1.f1.length c2,.string m.f1.f2.f0,.string m.f1.f2.f1,.bool m.f1.f2.f2,.slice A6 m.f2.length c6,.slice A7 m.f3.length c7,.int .i64 m.f4] 34))) (l8 w _)) (jI (Below.refl _ _)))
 have HO:=ah.mk (fun (W:World) (hb:Below w.heap.size w W)=>iB.calls m.f0 m.f1.f0 A2 c2 m.f1.f1 m.f1.f2.f0 m.f1.f2.f1 m.f1.f2.f2 A6 c6 m.f2 A7 c7 m.f3 m.f4 _ _ _ _ _ _ _ _ _ W (Kd.bG hr2 hb) hc2 (Kd.bG hr6 hb) hc6 (Kd.bG hr7 hb) hc7 hown)
 have HGQ:=ah.mk (show gq≠w.heap.size from Nat.ne_of_lt (fu hW.hq))
 have HN:=ah.mk (show some w.heap.size≠v.ownBlock from fun he=>by have:=Kd.O8 hW.hs _ he.symm;omega)
 obtain ⟨N,hN⟩:∃ N:Nat,N=w.heap.size + 1:=⟨_,rfl⟩
 have HNN:=ah.mk hN
 clear hN
 clear hW hr2 hc2 hr6 hc6 hr7 hc7 hown hlen
 go_enter Tryz.func103,Tryz.ntmps103
 go_wp2_with fail
 refine uN (n:=12) (S:=fun w'=>w'.cell? ⟨gq,1,none⟩=some v∧w'.cell? ⟨w.heap.size,0,none⟩=some (.int .i64 m.f0)∧w'.cell? ⟨w.heap.size,1,none⟩=some (.bool m.f1.f0)∧w'.cell? ⟨w.heap.size,2,none⟩=some (.slice A2 m.f1.f1.length c2)∧w'.cell? ⟨w.heap.size,3,none⟩=some (.string m.f1.f2.f0)∧w'.cell? ⟨w.heap.size,4,none⟩=some (.string m.f1.f2.f1)∧w'.cell? ⟨w.heap.size,5,none⟩=some (.bool m.f1.f2.f2)∧w'.cell? ⟨w.heap.size,6,none⟩=some (.slice A6 m.f2.length c6)∧w'.cell? ⟨w.heap.size,7,none⟩=some (.slice A7 m.f3.length c7)∧w'.cell? ⟨w.heap.size,8,none⟩=some (.int .i64 m.f4)) (ds:=[11]) #[false,false,false,false,false,false,false,false,false,false,false,false] aR (by rfl) (by rfl) ⟨(af HW.out.hq 1).trans rfl,(af HW.out.hb 0).trans rfl,(af HW.out.hb 1).trans rfl,(af HW.out.hb 2).trans rfl,(af HW.out.hb 3).trans rfl,(af HW.out.hb 4).trans rfl,(af HW.out.hb 5).trans rfl,(af HW.out.hb 6).trans rfl,(af HW.out.hb 7).trans rfl,(af HW.out.hb 8).trans rfl⟩ (fun hHeld=>?_)
 refine dS (i:=0) (N:=some 4) (v:=?_) (a':=?_) #[true,false,false,false,false,false,false,false,false,false,false,false] rfl rfl aR (fun _ _ _ h=>h) (Or.inl ⟨by rfl,?_⟩) ?_ ?_
 rotate_left
 ·intro w'
  go_simp
  with_reducible rfl
 rotate_left
 ·simp only [Act.put,List.setIfInBounds_toArray,List.set_cons_zero,List.set_cons_succ,fU,gj]
  rfl
 refine dS (i:=1) (N:=some 5) (v:=?_) (a':=?_) #[true,true,false,false,false,false,false,false,false,false,false,false] rfl rfl aR (fun _ _ _ h=>h) (Or.inl ⟨by rfl,?_⟩) ?_ ?_
 rotate_left
 ·intro w'
  go_simp
  with_reducible rfl
 rotate_left
 ·simp only [Act.put,List.setIfInBounds_toArray,List.set_cons_zero,List.set_cons_succ,fU,gj]
  rfl
 refine dS (i:=2) (N:=some 6) (v:=?_) (a':=?_) #[true,true,true,false,false,false,false,false,false,false,false,false] rfl rfl aR (fun _ _ _ h=>h) (Or.inl ⟨by rfl,?_⟩) ?_ ?_
 rotate_left
 ·intro w'
  go_simp
  with_reducible rfl
 rotate_left
 ·simp only [Act.put,List.setIfInBounds_toArray,List.set_cons_zero,List.set_cons_succ,fU,gj]
  rfl
 refine dS (i:=3) (N:=some 7) (v:=?_) (a':=?_) #[true,true,true,true,false,false,false,false,false,false,false,false] rfl rfl aR (fun _ _ _ h=>h) (Or.inl ⟨by rfl,?_⟩) ?_ ?_
 rotate_left
 ·intro w'
  go_simp
  with_reducible rfl
 rotate_left
 ·simp only [Act.put,List.setIfInBounds_toArray,List.set_cons_zero,List.set_cons_succ,fU,gj]
  rfl
 refine nL (i:=4) (N:=some 8) (v:=?_) (a':=?_) #[true,true,true,true,true,false,false,false,false,false,false,false] rfl rfl aR (fun _ _ _ h=>h) (Or.inl ⟨by rfl,?_⟩) hHeld ?_ ?_
 rotate_left
 ·rintro w' ⟨s0,s1,s2,s3,s4,s5,s6,s7,s8,s9⟩
  go_simp
  with_reducible rfl
 rotate_left
 ·simp only [Act.put,List.setIfInBounds_toArray,List.set_cons_zero,List.set_cons_succ,fU,gj]
  rfl
 refine nL (i:=5) (N:=some 9) (v:=?_) (a':=?_) #[true,true,true,true,true,true,false,false,false,false,false,false] rfl rfl aR (fun _ _ _ h=>h) (Or.inl ⟨by rfl,?_⟩) hHeld ?_ ?_
 rotate_left
 ·rintro w' ⟨s0,s1,s2,s3,s4,s5,s6,s7,s8,s9⟩
  go_simp
  with_reducible rfl
 rotate_left
 ·simp only [Act.put,List.setIfInBounds_toArray,List.set_cons_zero,List.set_cons_succ,fU,gj]
  rfl
 refine rW (i:=6) (N:=some 10) #[true,true,true,true,true,true,true,false,false,false,false,false] rfl rfl aR bE (fun K hK=>?_)
 refine pN Tryz.func72 aR rfl #[.agg #[.int .i64 m.f0,.bool m.f1.f0,.slice A2 m.f1.f1.length c2,.string m.f1.f2.f0,.string m.f1.f2.f1,.bool m.f1.f2.f2,.slice A6 m.f2.length c6,.slice A7 m.f3.length c7,.int .i64 m.f4]] (by rfl) rfl rfl (by simp only [List.map_toArray,List.map_cons,List.map_nil];rfl) ?_
 with_reducible refine (HO.out _ ?aX).mono ?_
 (case aX=>exact jI (cW (Below.refl _ _) _))
 rintro e w3 ⟨v2_,Pf,v7_,rfl,ho0,zk,xH,hb⟩
 refine ⟨_,rfl,?_⟩
 have Im:=ah.mk (AW.own HW.out N (HNN.out.trans cO) hb ho0 zk xH)
 clear hb ho0 zk xH
 refine hK.out _ _ ⟨(af Im.out.hq 1).trans rfl,(af Im.out.hb 0).trans rfl,(af Im.out.hb 1).trans rfl,(af Im.out.hb 2).trans rfl,(af Im.out.hb 3).trans rfl,(af Im.out.hb 4).trans rfl,(af Im.out.hb 5).trans rfl,(af Im.out.hb 6).trans rfl,(af Im.out.hb 7).trans rfl,(af Im.out.hb 8).trans rfl⟩ (fun hHeld=>?_)
 clear hK K
 refine kI (a':=?_) ?_ ?_
 rotate_left
 ·show Act.put _ (some 10) _=_
  simp only [Act.put,List.setIfInBounds_toArray,List.set_cons_zero,List.set_cons_succ,fU,gj]
  rfl
 refine rW (i:=7) (N:=some 11) #[true,true,true,true,true,true,true,true,false,false,false,false] rfl rfl aR bE (fun K hK=>?_)
 refine QF (w1:=?_) (v:=?_) (by rfl) rfl ?_ ?_
 rotate_left 2
 ·go_simp
  constructor
  ·rfl
  ·rfl
 have Uc:=ah.mk (AO.alloc Im.out (.cells #[.int .i64 m.f0,.bool m.f1.f0,v2_,.string m.f1.f2.f0,.string m.f1.f2.f1,.bool m.f1.f2.f2,Pf,v7_,.int .i64 m.f4] 34))
 refine hK.out _ _ ⟨(af Uc.out.hq 1).trans rfl,(af Uc.out.hb 0).trans rfl,(af Uc.out.hb 1).trans rfl,(af Uc.out.hb 2).trans rfl,(af Uc.out.hb 3).trans rfl,(af Uc.out.hb 4).trans rfl,(af Uc.out.hb 5).trans rfl,(af Uc.out.hb 6).trans rfl,(af Uc.out.hb 7).trans rfl,(af Uc.out.hb 8).trans rfl⟩ (fun hHeld=>?_)
 clear hK K
 refine kI (a':=?_) ?_ ?_
 rotate_left
 ·show Act.put _ (some 11) _=_
  simp only [Act.put,List.setIfInBounds_toArray,List.set_cons_zero,List.set_cons_succ,fU,gj]
  rfl
 refine rW (i:=8) (N:=some 12) #[true,true,true,true,true,true,true,true,true,false,false,false] rfl rfl aR bE (fun K hK=>?_)
 refine Kd.wF R9 (w0:=w0) w0.heap.size (by rfl) (.tmp 8) (.tmp 11) 38 34 (.agg #[.int .i64 0,.bool false,.slice none 0 0,.string ⟨#[]⟩,.string ⟨#[]⟩,.bool false,.slice none 0 0,.slice none 0 0,.int .i64 0]) 136 rfl Tryz.underlying38 adQ rfl bE ay v ms m [.int .i64 m.f0,.bool m.f1.f0,v2_,.string m.f1.f2.f0,.string m.f1.f2.f1,.bool m.f1.f2.f2,Pf,v7_,.int .i64 m.f4] (fun _ =>True) (fun k=>N≤k) (by first|(go_simp;done)|(go_simp;rfl)) (by first|(go_simp;done)|(go_simp;rfl)) Im.out.mm (fun k hk=>⟨trivial,Im.out.ne k hk⟩) (fun _ _ =>trivial) Im.out.hs Im.out.bl Im.out.bl.size aBX.out ?_
 intro v1 w5 ho hb hg hat
 have CJ:=ah.mk (AO.app Im.out HN.out ho hb hg)
 obtain ⟨A9,c9,rfl⟩:=Kd.ji CJ.out.hs
 have hc5:w5.cell? ⟨gq,1,none⟩=some v:=(af CJ.out.hq 1).trans rfl
 have hf5:=aa CJ.out.hq 1
 clear ho hb hg hat
 refine hK.out _ _ ⟨(af CJ.out.hq 1).trans rfl,(af CJ.out.hb 0).trans rfl,(af CJ.out.hb 1).trans rfl,(af CJ.out.hb 2).trans rfl,(af CJ.out.hb 3).trans rfl,(af CJ.out.hb 4).trans rfl,(af CJ.out.hb 5).trans rfl,(af CJ.out.hb 6).trans rfl,(af CJ.out.hb 7).trans rfl,(af CJ.out.hb 8).trans rfl⟩ (fun hHeld=>?_)
 clear hK K
 refine kI (a':=?_) ?_ ?_
 rotate_left
 ·show Act.put _ (some 12) _=_
  simp only [Act.put,List.setIfInBounds_toArray,List.set_cons_zero,List.set_cons_succ,fU,gj]
  rfl
 refine dS (i:=9) (N:=some 13) (v:=?_) (a':=?_) #[true,true,true,true,true,true,true,true,true,true,false,false] rfl rfl aR (fun _ _ _ h=>h) (Or.inl ⟨by rfl,?_⟩) ?_ ?_
 rotate_left
 ·intro w'
  go_simp
  with_reducible rfl
 rotate_left
 ·simp only [Act.put,List.setIfInBounds_toArray,List.set_cons_zero,List.set_cons_succ,fU,gj]
  rfl
 refine dS (i:=10) (N:=some 14) (v:=?_) (a':=?_) #[true,true,true,true,true,true,true,true,true,true,true,false] rfl rfl aR (fun _ _ _ h=>h) (Or.inl ⟨by rfl,?_⟩) ?_ ?_
 rotate_left
 ·intro w'
  go_simp
  with_reducible rfl
 rotate_left
 ·simp only [Act.put,List.setIfInBounds_toArray,List.set_cons_zero,List.set_cons_succ,fU,gj]
  rfl
 refine Hz (i:=11) (N:=none) #[true,true,true,true,true,true,true,true,true,true,true,true] rfl rfl aR bE (fun K hK=>?_)
 refine Cy (w1:=?_) (by rfl) rfl ?_ ?_
 rotate_left
 ·go_simp
  rfl
 refine hK.out _ _ ?_
 clear hK K
 refine zO aR ?_
 have HQ6:=ah.mk (QW.aja (QW.put CJ.out.bl CJ.out.hq CJ.out.ge CJ.out.hs) (wrap64 (m.f0 + 1)))
 have hn1:=HGQ.out
 have hn2:=Ne.symm HGQ.out
 have hb5:w5.cell? ⟨w.heap.size,0,none⟩=some (.int .i64 m.f0):=(af CJ.out.hb 0).trans rfl
 have hq5:w5.cell? ⟨gq,0,none⟩=some (.int .i64 n):=(af CJ.out.hq 0).trans rfl
 have aJq:=aa CJ.out.hq 0
 go_wp2
 go_end0
 exact ⟨rfl,_,by have h:=HQ6.out;rw [List.length_append] at h;exact h⟩
end Go.Proofs.YtbjjaaodfbjkfaaGreatDoor.qb
