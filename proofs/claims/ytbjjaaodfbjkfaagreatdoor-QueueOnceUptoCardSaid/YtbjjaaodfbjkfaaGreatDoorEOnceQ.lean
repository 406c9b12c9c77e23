import Derived.Test.YtbjjaaodfbjkfaaGreatDoorPLaws
import Derived.Maps.OwnOps
import Derived.Maps.Views
namespace Go.Proofs.YtbjjaaodfbjkfaaGreatDoor.mU
open Go.RowKit Go.Maps Go.Proofs.ak.bR Go.Proofs.ak.dz Go.Proofs.ak.cZ
open Go.Proofs.YtbjjaaodfbjkfaaGreatDoor.tG (Inv FU kV ro oJ Fits Lr LI Ga ab1 jL F7 wJ Bw Round yz aeC LL Ch mW Lp)
set_option linter.unusedVariables false
set_option linter.unusedSimpArgs false
theorem aeE:Keyed Tryz.prog 3:=int_keyed Tryz.underlying3
theorem ab3 (w:World):(zeroValue 3).run Tryz.prog w= .ok (.int .i64 0) w:=by kernel_rfl
theorem aaL (k k':IntKind) (n:Nat):Builtin.min2 (.int k (n:Int)) (.int k' 40)=pure (.int k ((min n 40:Nat):Int)):=by
 rw [iT]
 congr 2
 split<;>omega
def q8 (D:DataW Unit) (n:Int):Prop:=IsMap D∧∀ i,n≤i→D.atKey (.int .i64 i) (.lit (.int .i64 0))= .lit (.int .i64 0)
theorem q8.none (n:Int):q8 (.map []) n:=⟨⟨_,rfl⟩,fun _ _ =>rfl⟩
theorem q8.mono {D:DataW Unit} {n n':Int} (h:q8 D n) (hn:n≤n'):q8 D n':=⟨h.1,fun i hi=>h.2 i az⟩
theorem q8.put {D:DataW Unit} {n n' a:Int} (h:q8 D n) (hn:n≤n') (ha:a < n') (d:DataW Unit):q8 (D.put (.int .i64 a) d) n':=
 ⟨h.1.put _ _,fun i hi=>by rw [atKey_put_other (by intro e;injection e with _ e;omega)];exact h.2 i az⟩
def SH (gi b:Nat):Nat:=if gi < b then 1 else 0
theorem NP {gi b:Nat} (h:b=gi):SH gi (b + 1)=1∧SH gi b=0:=⟨if_pos az,if_neg az⟩
theorem aeF {gi b:Nat} (h:b≠gi):SH gi (b + 1)=SH gi b:=by unfold SH;split<;>split<;>omega
def cntF:List Rc→Nat
 | []=>0
 |r :: l=>if r.f1=2 then cntF l + 1 else cntF l
theorem LM:∀ l:List Rc,decide ((0:Int) < (cntF l:Int))=hasB l 2
 | []=>rfl
 |r :: l=>by
  have ih:=LM l
  unfold hasB at ih ⊢
  unfold cntF
  rw [List.any_cons]
  by_cases h:r.f1=2
  ·rw [if_pos h,decide_eq_true h,Bool.true_or];simp
  ·rw [if_neg h,decide_eq_false h,Bool.false_or];exact ih
theorem Bz:∀ (l:List Rc) (p:Nat) (r:Rc),l[p]? =some r→cntF (l.take (p + 1))=if r.f1=2 then cntF (l.take p) + 1 else cntF (l.take p)
 | [],p,r,h=>by simp at h
 |x :: l,0,r,h=>by
  obtain rfl:x=r:=by simpa using h
  simp [cntF]
 |x :: l,p + 1,r,h=>by
  have ih:=Bz l p r (by simpa using h)
  rw [List.take_succ_cons,List.take_succ_cons,cntF,cntF,ih]
  split<;>split<;>rfl
theorem Q8:∀ l:List Rc,cntF l≤l.length
 | []=>Nat.le_refl _
 |r :: l=>by
  unfold cntF
  have:=Q8 l
  rw [List.length_cons]
  split<;>omega
theorem which {n n':Int} {ms ms' old new:List Ml} (h:Round n ms n' ms' old new):∃ gi:Nat,(∀ (b:Nat) (m:Ml),ms[b]? =some m→b≠gi→∃ m',m'∈ms'∧yz m m')∧(∀ m,ms[gi]? =some m→aeC m new∧∀ y∈ms',y.f0≠m.f0)∧old.length + SH gi ms.length=ms.length:=by
 unfold SH
 rcases h.all with ⟨h1,h2⟩|⟨i,x,h1,h2,h3,h4,h5⟩
 ·exact ⟨ms.length,fun b m hm _ =>(by obtain ⟨m',q1,q2⟩:=h1 m (List.mem_of_getElem? hm);exact ⟨m',q1,q2⟩),fun m hm=>(by rw [List.getElem?_eq_none (Nat.le_refl _)] at hm;cases hm),by rw [if_neg az];omega⟩
 ·have hil:i < ms.length:=(List.getElem?_eq_some_iff.1 h1).1
  exact ⟨i,fun b m hm hne=>⟨m,h5 b m hm hne,yz.refl m⟩,fun m hm=>(by obtain rfl:x=m:=Option.some.inj (h1.symm.trans hm);exact ⟨h2,h3⟩),by rw [if_pos hil];exact h4⟩
theorem Q9 {n':Int} {ms':List Ml} (hI:Inv n' ms') {m m':Ml} (hm:m'∈ms') (hk:yz m m') {a:Nat} {r:Rc} (hr:m.f2[a]? =some r): 0≤jL m.f0 a ms'∧jL m.f0 a ms'≤2∧(r.f1=0∨jL m.f0 a ms'=r.f1):=by
 obtain ⟨r',h1,h2⟩:=hk.2.2 a r hr
 have hs:=Bw (a:=a) hk.1 h1 hI.ids hm
 have q:=Lp ((mW (hI.good m' hm)).rcs r' (List.mem_of_getElem? h1))
 have q2:=((hI.small m' hm).rcs r' (List.mem_of_getElem? h1)).2.2
 rw [hs]
 exact ⟨q2,q.st0,h2⟩
theorem sts {n':Int} {ms':List Ml} (hI:Inv n' ms'):∀ m∈ms',∀ r∈m.f2,0≤r.f1∧r.f1≤2:=fun m hm r hr=>⟨((hI.small m hm).rcs r hr).2.2,(Lp ((mW (hI.good m hm)).rcs r hr)).st0⟩
theorem NB {D:DataW Unit} {n a c:Int} (h:q8 D n) (ha:n≤a) (hat:D.atKey (.int .i64 a) (.lit (.int .i64 0))= .lit (.int .i64 c)):c=0:=by
 rw [h.2 a ha] at hat
 injection hat with hat
 injection hat with _ hat
 exact hat.symm
theorem Sw {D:DataW Unit} {n a c:Int} (h:q8 D n) (hat:(D.put (.int .i64 a) (.lit (.int .i64 1))).atKey (.int .i64 a) (.lit (.int .i64 0))= .lit (.int .i64 c)):c=1:=by
 rw [atKey_put_same h.1 (by simp [Go.WideAt.IsKeyLit])] at hat
 injection hat with hat
 injection hat with _ hat
 exact hat.symm
structure OW (w0 W:World) (g3 gB K:Nat) (D:DataW Unit) (n:Int) (v:Value) (ms:List Ml):Prop where
 q:QW w0 W g3 n v ms
 geB:w0.heap.size≤gB
 hm:W.ownsMap Tryz.prog 3 (plainElem Tryz.prog 3) gB K D
theorem OW.below {w0 W W1:World} {g3 gB K:Nat} {D:DataW Unit} {n:Int} {v:Value} {ms:List Ml} (h:OW w0 W g3 gB K D n v ms) (hb:Below W.heap.size W W1):OW w0 W1 g3 gB K D n v ms:=
 ⟨h.q.below hb,h.geB,h.hm.kept (mL hb none) cF⟩
theorem Kk {W:World} {gB K:Nat} {D:DataW Unit} (h:W.ownsMap Tryz.prog 3 (plainElem Tryz.prog 3) gB K D) {g:Nat} {cs:Array Value} {t:TypeId} {f:Nat×Nat} (hg:W.heap[g]? =some (.cells cs t f)):g≠gB:=by
 rintro rfl
 obtain ⟨es,clock,hb,_⟩:=h
 rw [hb] at hg
 cases hg
theorem QW.mapped {w0 W W1:World} {g gB K:Nat} {D:DataW Unit} {n:Int} {v:Value} {ms:List Ml} (h:QW w0 W g n v ms) (hm:W.ownsMap Tryz.prog 3 (plainElem Tryz.prog 3) gB K D) (hB:w0.heap.size≤gB) (hg:W.grownBy W1 (some gB)):QW w0 W1 g n v ms:=
 ⟨h.bl.grown hg h.bl.size (fun k hk=>by obtain rfl:=Option.some.inj hk;exact hB),fM h.hq hg (fun e=>Kk hm h.hq (Option.some.inj e)),h.ge,Kd.fB (Kd.VJ (Kd.Cy h.hs) hg (fun k hk e=>by
   obtain ⟨_,_,_,q,_,cells,hc⟩:=hk
   exact Kk hm hc (Option.some.inj e))) (fun _ _ =>trivial)⟩
theorem Gb (W:World) (b j:Nat) (v:Value):W.grownBy (W.setCell ⟨b,j,none⟩ v) (some b):=
 ⟨rfl,rfl,rfl,by simp [World.setCell],fun k _ hk=>Below.heap_setCell _ _ _ k (fun e=>hk (by rw [e]))⟩
theorem QW.lower {w0 w1 W:World} {g:Nat} {n:Int} {v:Value} {ms:List Ml} (h:QW w1 W g n v ms) (hb:Below w0.heap.size w0 w1):QW w0 W g n v ms:=
 ⟨dL hb hb.size h.bl,h.hq,Nat.le_trans hb.size h.ge,Kd.oF h.hs hb.size⟩
theorem pq {w1 W:World} {g:Nat} {a:Int} {A:Option Addr} {l c:Nat} (h:w1.heap[g]? =some (.cells #[.int .i64 a,.slice A l c] 40 (0,0))) (hb:Below w1.heap.size w1 W):
 W.cell? ⟨g,0,none⟩=some (.int .i64 a)∧W.cell? ⟨g,1,none⟩=some (.slice A l c)∧W.frozen? ⟨g,0,none⟩=false∧W.frozen? ⟨g,1,none⟩=false:=
 ⟨(af (aA h hb) 0).trans rfl,(af (aA h hb) 1).trans rfl,aa (aA h hb) 0,aa (aA h hb) 1⟩
theorem below_drewN {B:Nat} {a w:World} (h:Below B a w) (n:Nat):Below B a (w.drewN n):=h.trans ⟨rfl,rfl,rfl,Nat.le_refl _,fun _ _ =>rfl⟩
theorem OW.put {w0 W:World} {g3 gB K g7:Nat} {D:DataW Unit} {n n':Int} {v v':Value} {ms ms':List Ml} (h:OW w0 W g3 gB K D n v ms) (h7:QW w0 W g7 n' v' ms'):OW w0 ((W.setCell ⟨g3,0,none⟩ (.int .i64 n')).setCell ⟨g3,1,none⟩ v') g3 gB K D n' v' ms':=by
 have e0:(W.setCell ⟨g3,0,none⟩ (.int .i64 n')).heap[g3]? =some (.cells #[.int .i64 n',v] 40 (0,0)):=aZ h.q.hq 0 _ rfl
 have hne:=Kk h.hm h.q.hq
 refine ⟨⟨cC (cC h.q.bl h.q.ge) h.q.ge,aZ e0 1 _ rfl,h.q.ge,Kd.yg (Kd.yg h7.hs h.q.hq bC 0 _) e0 bC 1 _⟩,h.geB,?_⟩
 refine World.ownsMap.kept (row:=some g3) (World.ownsMap.kept (row:=some g3) h.hm (Gb _ _ _ _) (fun e=>hne (Option.some.inj e).symm)) (Gb _ _ _ _) (fun e=>hne (Option.some.inj e).symm)
set_option maxRecDepth 100000 in
set_option maxHeartbeats 16000000 in
attribute [local go_sem] aaL jX iR jW in
theorem Sy (k:Nat) (hk: 3200000≤k) (A:Option Addr) (c:Nat) (l:List Ch) (w:World) (hr:Kd.C k46 w A l.length l) (hc:l.length≤c) (hG:bq w) (hS:∀ x∈l,kV x.f4):
 Calls Tryz.prog 5 #[.slice A l.length c] w fun e w'=>e= .returned (.bool true)∧Below w.heap.size w w':=by
 have hu1:=Tryz.underlying46
 have hu2:=Tryz.underlying40
 have hu3:=Tryz.underlying34
 have hu4:=Tryz.underlying37
 have hmm:=@run_makeMap Tryz.prog
 have HR:=ah.mk hr
 have HC:=ah.mk hc
 have HG:=ah.mk hG
 have HSM:=ah.mk hS
 have HK:=ah.mk hk
 have HN:=ah.mk hr.2.1
 clear hr hG hS hk
 go_enter Tryz.func5,Tryz.ntmps5
 go_wp2_with fail
 refine (j4.calls 1 [] w rfl).mono ?_
 rintro e w1 ⟨SE,rfl,hS1,hb1⟩
 obtain ⟨A1,c1,rfl⟩:=Kd.iH hS1
 have zM:=ah.mk (QW.start (n:=1) hb1 hS1)
 clear hS1 hb1
 have p1:((min l.length 40:Nat):Int)≤(c:Int):=by omega
 have p2:(0:Int)≤((min l.length 40:Nat):Int):=by omega
 have p3:((min l.length 40:Nat):Int)≤(l.length:Int):=by omega
 go_wp2_with fail
 have HO0:=ah.mk (show OW w ((w1.alloc (.cells #[.int .i64 1,.slice A1 0 c1] 40)).alloc (.map #[] 0)) w1.heap.size (w1.heap.size + 1) 0 (.map []) 1 (.slice A1 0 c1) [] from
  ⟨zM.out.below (b9 (Below.refl _ _) _),by have:=zM.out.ge;omega,by have:=World.ownsMap_made (H:=Unit) (w1.alloc (.cells #[.int .i64 1,.slice A1 0 c1] 40)) Tryz.prog 3 (plainElem Tryz.prog 3);rw [show (w1.alloc (.cells #[.int .i64 1,.slice A1 0 c1] 40)).heap.size=w1.heap.size + 1 by simp] at this;exact this⟩)
 obtain ⟨g3,hg3⟩:∃ g3,g3=w1.heap.size:=⟨_,rfl⟩
 rw [← hg3] at HO0 ⊢
 clear p1 p2 p3 zM hg3
 go_loopw [30] (fun i wr=>∃ (j K:Nat) (D:DataW Unit) (n:Int) (v:Value) (ms:List Ml),j≤min l.length 40∧i= .int .i64 j∧ah (Inv n ms)∧ah (OW w wr g3 (g3 + 1) K D n v ms)∧ah (q8 D n)∧ah (K≤j)) (fun i _ =>min l.length 40 - (intOf i).toNat)
 case atStart=>exact ⟨0,_,_,_,_,_,Nat.zero_le _,rfl,⟨FU⟩,HO0,⟨q8.none 1⟩,⟨Nat.le_refl _⟩⟩
 case round=>
  obtain ⟨j,K,D,n,v,ms,hj,rfl,HI,HO,HU,HKj⟩:=hrel
  obtain ⟨wo,hwo⟩:∃ wo,wo=wr:=⟨_,rfl⟩
  subst hwo
  by_cases hlt:j < min l.length 40
  ·as_aux_lemma=>
    have hjl:j < l.length:=by omega
    have VA:jA l (j:Int)∈l:=by rw [tG.alA hjl];exact List.getElem_mem _
    have HX:=acA HR.out (j:Int) az az
    generalize jA l (j:Int)=x at HX VA
    rw [Int.toNat_natCast] at HX
    obtain ⟨ad,B6,d6,B10,d10,B11,d11,rfl,hx0,hx1,hx2,hx3,ET,BF,LR,SC,Zi,hx9,Rx,TV,aaM,hl6,hi6,alC,alD,alE,alF⟩:=HX
    replace hx0:=(HO.out.q.bl.cell (World.block_lt_of_cell? w _ hx0)).trans hx0
    replace hx1:=(HO.out.q.bl.cell (World.block_lt_of_cell? w _ hx1)).trans hx1
    replace hx2:=(HO.out.q.bl.cell (World.block_lt_of_cell? w _ hx2)).trans hx2
    replace hx3:=(HO.out.q.bl.cell (World.block_lt_of_cell? w _ hx3)).trans hx3
    replace ET:=(HO.out.q.bl.cell (World.block_lt_of_cell? w _ ET)).trans ET
    replace BF:=(HO.out.q.bl.cell (World.block_lt_of_cell? w _ BF)).trans BF
    replace LR:=(HO.out.q.bl.cell (World.block_lt_of_cell? w _ LR)).trans LR
    replace SC:=(HO.out.q.bl.cell (World.block_lt_of_cell? w _ SC)).trans SC
    replace Zi:=(HO.out.q.bl.cell (World.block_lt_of_cell? w _ Zi)).trans Zi
    replace hx9:=(HO.out.q.bl.cell (World.block_lt_of_cell? w _ hx9)).trans hx9
    replace Rx:=(HO.out.q.bl.cell (World.block_lt_of_cell? w _ Rx)).trans Rx
    replace TV:=(HO.out.q.bl.cell (World.block_lt_of_cell? w _ TV)).trans TV
    replace aaM:=(HO.out.q.bl.cell (World.block_lt_of_cell? w _ aaM)).trans aaM
    obtain ⟨n',ms',e',hA,hI',ab4⟩:=Lr HI.out x.f0 x.f1 x.f2 x.f3 (HSM.out x VA)
    have HA:=ah.mk (hA k (ab1 Cw))
    have HI':=ah.mk hI'
    have HCS:=ah.mk ab4
    have HM:=ah.mk (show MR w x.f4 B6 d6 B10 d10 B11 d11 from ⟨hi6,hl6,alD,alC,alF,alE⟩)
    have HSX:=ah.mk (HSM.out x VA)
    clear hA hI' ab4 hi6 hl6 alD alC alF alE VA
    obtain ⟨Av,cv,rfl⟩:=Kd.iH HO.out.q.hs
    have HO5:=ah.mk (HO.out.below (b9 (Below.refl _ _) (.cells #[.int .u8 x.f0,.int .i64 x.f1,.int .i64 x.f2,.int .i64 x.f3,.int .i64 x.f4.f0,.bool x.f4.f1.f0,.slice B6 x.f4.f1.f1.length d6,.string x.f4.f1.f2.f0,.string x.f4.f1.f2.f1,.bool x.f4.f1.f2.f2,.slice B10 x.f4.f2.length d10,.slice B11 x.f4.f3.length d11,.int .i64 x.f4.f4] 46)))
    obtain ⟨qa0,qa1,fa0,fa1⟩:=pq HO5.out.q.hq (Below.refl _ _)
    have e1:decide ((j:Int) < ((min l.length 40:Nat):Int))=true:=decide_eq_true az
    have hjm:(j:Int) < ((min l.length 40:Nat):Int):=by omega
    go_wp2_with fail
    refine (cL.calls k n Av cv ms x.f0 x.f1 x.f2 x.f3 x.f4.f0 x.f4.f1.f0 B6 d6 x.f4.f1.f1 x.f4.f1.f2.f0 x.f4.f1.f2.f1 x.f4.f1.f2.f2 B10 d10 x.f4.f2 B11 d11 x.f4.f3 x.f4.f4 n' ms' e' _ (Kd.fu HO5.out.q.hs).2.2 (Kd.fu HO5.out.q.hs).2.1 (Kd.bQ HM.out.r2 HO5.out.q.bl) HM.out.c2 (Kd.bQ HM.out.r6 HO5.out.q.bl) HM.out.c6 (Kd.bQ HM.out.r7 HO5.out.q.bl) HM.out.c7 (HG.out.below HO5.out.q.bl) HA.out).mono ?_
    rintro e w2 ⟨Zk,rfl,La,hb2⟩
    obtain ⟨A',c',rfl⟩:=Kd.iH La
    have HQ7:=ah.mk ((QW.start (n:=n') hb2 La).lower HO5.out.q.bl)
    have HO7:=ah.mk ((HO5.out.below hb2).below (b9 (Below.refl _ _) (.cells #[.int .i64 n',.slice A' ms'.length c'] 40)))
    clear La hb2 qa0 qa1 fa0 fa1 hx0 hx1 hx2 hx3 ET BF LR SC Zi hx9 Rx TV aaM e1 HA HM
    obtain ⟨qa0,qa1,fa0,fa1⟩:=pq HO7.out.q.hq (Below.refl _ _)
    rcases HCS.out with ⟨rfl,rfl,rfl⟩|⟨rfl,hch,hF⟩
    ·as_aux_lemma=>
      clear HCS
      have HSa:=ah.mk (Ga n' ms' (by have:=HI.out.len;omega) HI.out.small k Cw)
      go_wp2_with (first|(go_at_call 25;refine (iV.calls k n' Av cv ms' n' A' c' ms' true _ (Kd.fu HO7.out.q.hs).2.2 (Kd.fu HO7.out.q.hs).2.1 (Kd.fu HQ7.out.hs).2.2 (Kd.fu HQ7.out.hs).2.1 HSa.out).mono ?_;rintro e w3 ⟨rfl,hb3⟩;have HO8:=ah.mk (HO7.out.below hb3);clear hb3))
      go_roundw
      case rel=>exact ⟨j + 1,K,D,n',_,ms',az,cF,HI,HO8,HU,⟨by have:=HKj.out;omega⟩⟩
      case measure=>simp [intOf];omega
    ·as_aux_lemma=>
      clear HCS
      obtain ⟨old,new,hrd⟩:=LL HI.out HSX.out HI'.out hch hF
      have HRD:=ah.mk hrd
      clear hrd hch hF
      go_wp2_with fail
      obtain ⟨g7,PK⟩:∃ g7,g7=w2.heap.size:=⟨_,rfl⟩
      rw [← PK] at HQ7 ⊢
      clear PK qa0 qa1 fa0 fa1
      have HLEN:=ah.mk (show ms'.length=old.length + new.length by rw [HRD.out.app,List.length_append])
      have aeH:=ah.mk (show new.length≤1 by rcases HRD.out.new1 with h|⟨m,h,_⟩<;>rw [h]<;>simp)
      have HLE:=ah.mk HRD.out.le
      go_loopw [9,53] (fun cm i wr=>∃ (a K2:Nat) (D2:DataW Unit),a≤ms'.length∧cm= .int .i64 ((a - old.length:Nat):Int)∧i= .int .i64 a∧ah (OW w wr g3 (g3 + 1) K2 D2 n (.slice Av ms.length cv) ms)∧ah (QW w wr g7 n' (.slice A' ms'.length c') ms')∧ah (q8 D2 (if a≤old.length then n else n'))∧ah (K2≤j + (a - old.length))) (fun _ i _ =>ms'.length - (intOf i).toNat)
      case atStart=>exact ⟨0,K,D,Nat.zero_le _,cF,rfl,HO7,HQ7,⟨by rw [if_pos (Nat.zero_le _)];exact HU.out⟩,⟨by have:=HKj.out;omega⟩⟩
      case round=>
       obtain ⟨a,K2,D2,ha,rfl,rfl,HO,HQ,HU2,SA⟩:=hrel
       obtain ⟨wa,hwa⟩:∃ wa,wa=wr:=⟨_,rfl⟩
       subst hwa
       have azP:=HI'.out.len
       by_cases hal:a < ms'.length
       ·as_aux_lemma=>
         obtain ⟨m,hm⟩:∃ m,ms'[a]? =some m:=⟨ms'[a],List.getElem?_eq_getElem hal⟩
         have Vm:=ah.mk hm
         have e1:decide ((a:Int) < (ms'.length:Int))=true:=decide_eq_true az
         obtain ⟨gm,cm_,v2,v6,v7,qu,hv,hne,hcells,Jh,vN,Ji,-⟩:=HQ.out.Jg a m hm
         injection hv with hv1 hv2 hv3
         subst hv1 hv3
         obtain ⟨E2,g2_,rfl⟩:=Kd.dm Jh
         obtain ⟨E6,VC,rfl⟩:=Kd.dm vN
         obtain ⟨E7,g7_,rfl⟩:=Kd.dm Ji
         have x0:wa.cell? ⟨gm,a * 9,none⟩=some (.int .i64 m.f0):=hcells 0 _ rfl
         have x1:=hcells 1 _ rfl
         have x2:=hcells 2 _ rfl
         have x3:=hcells 3 _ rfl
         have x4:=hcells 4 _ rfl
         have x5:=hcells 5 _ rfl
         have x6:=hcells 6 _ rfl
         have x7:=hcells 7 _ rfl
         have x8:=hcells 8 _ rfl
         have Vn:=ah.mk (HO.out.below (b9 (Below.refl _ _) (.cells #[.int .i64 m.f0,.bool m.f1.f0,.slice E2 m.f1.f1.length g2_,.string m.f1.f2.f0,.string m.f1.f2.f1,.bool m.f1.f2.f2,.slice E6 m.f2.length VC,.slice E7 m.f3.length g7_,.int .i64 m.f4] 34)))
         have zM:=ah.mk (HQ.out.below (b9 (Below.refl _ _) (.cells #[.int .i64 m.f0,.bool m.f1.f0,.slice E2 m.f1.f1.length g2_,.string m.f1.f2.f0,.string m.f1.f2.f1,.bool m.f1.f2.f2,.slice E6 m.f2.length VC,.slice E7 m.f3.length g7_,.int .i64 m.f4] 34)))
         have qc:=ah.mk (jg wa (.cells #[.int .i64 m.f0,.bool m.f1.f0,.slice E2 m.f1.f1.length g2_,.string m.f1.f2.f0,.string m.f1.f2.f1,.bool m.f1.f2.f2,.slice E6 m.f2.length VC,.slice E7 m.f3.length g7_,.int .i64 m.f4] 34))
         obtain ⟨qa0,qa1,fa0,fa1⟩:=pq Vn.out.q.hq (Below.refl _ _)
         clear Jh vN Ji hcells hne
         by_cases hao:a < old.length
         ·as_aux_lemma=>
           have aGs:m.f0 < n:=HRD.out.low m (by
            have h1:=Vm.out
            rw [HRD.out.app,List.getElem?_append_left hao] at h1
            exact List.mem_of_getElem? h1)
           have e2:decide (n≤m.f0)=false:=decide_eq_false az
           clear hm
           go_wp2_with fail
           go_roundw
           case rel=>exact ⟨a + 1,K2,D2,az,by rw [show a + 1 - old.length=a - old.length by omega],cF,Vn,zM,⟨by have:=HU2.out;rw [if_pos az] at this ⊢;exact this⟩,⟨by have:=SA.out;omega⟩⟩
           case measure=>simp [intOf];omega
         ·as_aux_lemma=>
           have hae:a=old.length:=by have:=HLEN.out;have:=aeH.out;omega
           have hmn:n≤m.f0:=by
            have h1:=Vm.out
            rw [HRD.out.app,List.getElem?_append_right az,hae,Nat.sub_self] at h1
            rcases HRD.out.new1 with h|⟨y,h,hy⟩
            ·rw [h] at h1;simp at h1
            ·rw [h] at h1;obtain rfl:y=m:=by simpa using h1
             exact hy
           have hmg:=mW (HI'.out.good m (List.mem_of_getElem? Vm.out))
           have hmb:=HI'.out.below m (List.mem_of_getElem? Vm.out)
           have hm0:=hmg.id0
           have hm1:=hmg.id1
           have HKEY:=ah.mk (keyOf_int_mk (P:=Tryz.prog) (k:=3) (q:= .i64) Tryz.underlying3 (a:=m.f0) (by simp [Lit.wf,IntKind.min,IntKind.max,IntKind.bits,IntKind.signed];omega))
           have HUU:=ah.mk (show q8 D2 n by have:=HU2.out;rw [if_pos az] at this;exact this)
           have HNN:=ah.mk (And.intro hmn hmb)
           have hz2:K2 < maxLen:=by have:=SA.out;unfold maxLen;omega
           have e2:decide (n≤m.f0)=true:=decide_eq_true hmn
           have e3:decide (n'≤m.f0)=false:=decide_eq_false az
           have HAE:=ah.mk hae
           clear hm hmg hmn hmb hm0 hm1 hae
           go_wp2_with (first
            |(at_lookup;refine wpList_lookup_own_int _ rfl _ _ 59 rfl 3 3 .i64 aeE Tryz.underlying59 Tryz.underlying3 (ab3 _) (g3 + 1) K2 D2 rfl Vn.out.hm _ _ rfl HKEY.out ?_;intro cz hat hwc;obtain rfl:cz=0:=NB HUU.out HNN.out.1 hat;clear hat hwc)
            |(at_mapUpdate;refine wpList_mapUpdate_own _ rfl _ _ _ 59 rfl 3 3 aeE Tryz.underlying59 _ (g3 + 1) K2 D2 rfl Vn.out.hm hz2 _ _ _ rfl rfl HKEY.out _ [] (plainElem_int Tryz.underlying3 (a:=1) bC) ?_;intro w4 hown1 hgrow1;have HO4:=ah.mk (show OW w w4 g3 (g3 + 1) (K2 + 1) (D2.put (.int .i64 m.f0) (.lit (.int .i64 1))) n (.slice Av ms.length cv) ms from ⟨Vn.out.q.mapped Vn.out.hm Vn.out.geB hgrow1,Vn.out.geB,hown1⟩);have Qp:=ah.mk (zM.out.mapped Vn.out.hm Vn.out.geB hgrow1);have HB4:=ah.mk (fM qc.out hgrow1 (fun e=>Kk Vn.out.hm qc.out (Option.some.inj e)));clear hown1 hgrow1;have y0:w4.cell? ⟨wa.heap.size,0,none⟩=some (.int .i64 m.f0):=(af HB4.out 0).trans rfl;obtain ⟨ra0,ra1,ga0,ga1⟩:=pq Qp.out.hq (Below.refl _ _))
            |(at_lookup;refine wpList_lookup_own_int _ rfl _ _ 59 rfl 3 3 .i64 aeE Tryz.underlying59 Tryz.underlying3 (ab3 _) (g3 + 1) (K2 + 1) (D2.put (.int .i64 m.f0) (.lit (.int .i64 1))) rfl HO4.out.hm _ _ rfl HKEY.out ?_;intro cz hat hwc;obtain rfl:cz=1:=Sw HUU.out hat;clear hat hwc))
           go_roundw
           case rel=>exact ⟨a + 1,K2 + 1,D2.put (.int .i64 m.f0) (.lit (.int .i64 1)),az,by have:=HAE.out;rw [show a + 1 - old.length=(a - old.length) + 1 by omega];simp,cF,HO4,Qp,⟨by rw [if_neg (by have:=HAE.out;omega)];exact HUU.out.put HLE.out HNN.out.2 _⟩,⟨by have:=SA.out;have:=HAE.out;omega⟩⟩
           case measure=>simp [intOf];omega
       ·as_aux_lemma=>
         have azU:=ah.mk (show a=ms'.length by omega)
         have e1:decide ((a:Int) < (ms'.length:Int))=false:=decide_eq_false az
         obtain ⟨qa0,qa1,fa0,fa1⟩:=pq HO.out.q.hq (Below.refl _ _)
         have HU3:=ah.mk (show q8 D2 n' from HU2.out.mono (by have:=HLE.out;split<;>omega))
         have HCM:=ah.mk (show a - old.length=new.length by have:=azU.out;have:=HLEN.out;omega)
         rw [HCM.out]
         go_wp2_with fail
         clear qa0 qa1 fa0 fa1 e1
         obtain ⟨gi,hg1,hg2,hg3⟩:=which HRD.out
         have HG1:=ah.mk hg1
         have HG2:=ah.mk hg2
         have HG3:=ah.mk hg3
         have hml:ms.length≤1000:=HI.out.len
         clear hg1 hg2 hg3
         go_loopw [10,85] (fun gn i wr=>∃ b:Nat,b≤ms.length∧gn= .int .i64 (SH gi b:Int)∧i= .int .i64 b∧ah (Below wa.heap.size wa wr)) (fun _ i _ =>ms.length - (intOf i).toNat)
         case atStart=>exact ⟨0,Nat.zero_le _,by rw [show SH gi 0=0 from if_neg az];rfl,rfl,⟨Below.refl _ _⟩⟩
         case round=>
          obtain ⟨b,hb,rfl,rfl,HBL⟩:=hrel
          obtain ⟨wb,hwb⟩:∃ wb,wb=wr:=⟨_,rfl⟩
          subst hwb
          by_cases hbl:b < ms.length
          ·as_aux_lemma=>
            obtain ⟨m,hm⟩:∃ m,ms[b]? =some m:=⟨ms[b],List.getElem?_eq_getElem hbl⟩
            have Vm:=ah.mk hm
            have HOb:=ah.mk (HO.out.below HBL.out)
            have HOq:=ah.mk HOb.out.q
            have e1:decide ((b:Int) < (ms.length:Int))=true:=decide_eq_true az
            obtain ⟨gm,cm_,v2,v6,v7,qu,hv,hne,hcells,Jh,vN,Ji,-⟩:=HOq.out.Jg b m hm
            injection hv with hv1 hv2 hv3
            subst hv1 hv3
            obtain ⟨E2,g2_,rfl⟩:=Kd.dm Jh
            obtain ⟨E6,VC,rfl⟩:=Kd.dm vN
            obtain ⟨E7,g7_,rfl⟩:=Kd.dm Ji
            have x0:wb.cell? ⟨gm,b * 9,none⟩=some (.int .i64 m.f0):=hcells 0 _ rfl
            have x1:=hcells 1 _ rfl
            have x2:=hcells 2 _ rfl
            have x3:=hcells 3 _ rfl
            have x4:=hcells 4 _ rfl
            have x5:=hcells 5 _ rfl
            have x6:=hcells 6 _ rfl
            have x7:=hcells 7 _ rfl
            have x8:=hcells 8 _ rfl
            have HRm:=ah.mk (Kd.ck vN).2.2
            have HQb:=ah.mk ((HQ.out.below HBL.out).below (b9 (Below.refl _ _) (.cells #[.int .i64 m.f0,.bool m.f1.f0,.slice E2 m.f1.f1.length g2_,.string m.f1.f2.f0,.string m.f1.f2.f1,.bool m.f1.f2.f2,.slice E6 m.f2.length VC,.slice E7 m.f3.length g7_,.int .i64 m.f4] 34)))
            have HBm:=ah.mk (b9 HBL.out (.cells #[.int .i64 m.f0,.bool m.f1.f0,.slice E2 m.f1.f1.length g2_,.string m.f1.f2.f0,.string m.f1.f2.f1,.bool m.f1.f2.f2,.slice E6 m.f2.length VC,.slice E7 m.f3.length g7_,.int .i64 m.f4] 34))
            have HBk:=ah.mk (jg wb (.cells #[.int .i64 m.f0,.bool m.f1.f0,.slice E2 m.f1.f1.length g2_,.string m.f1.f2.f0,.string m.f1.f2.f1,.bool m.f1.f2.f2,.slice E6 m.f2.length VC,.slice E7 m.f3.length g7_,.int .i64 m.f4] 34))
            obtain ⟨ra0,ra1,ga0,ga1⟩:=pq HQb.out.hq (Below.refl _ _)
            have HSE:=ah.mk (fun p:Nat=>F7 n' ms' HI'.out.len (sts HI'.out) m.f0 p k Cw)
            have h6l:m.f2.length≤100:=(mW (HI.out.good m (List.mem_of_getElem? Vm.out))).to1
            clear Jh vN Ji hcells hne hm
            go_wp2_with fail
            refine (cT.calls k n' A' c' ms' m.f0 0 (jL m.f0 0 ms') _ (Kd.fu HQb.out.hs).2.2 (Kd.fu HQb.out.hs).2.1 (HSE.out 0)).mono ?_
            rintro e w5 ⟨rfl,tE⟩
            have LV:=ah.mk (dL HBL.out HBL.out.size (dL (b9 (Below.refl _ _) (.cells #[.int .i64 m.f0,.bool m.f1.f0,.slice E2 m.f1.f1.length g2_,.string m.f1.f2.f0,.string m.f1.f2.f1,.bool m.f1.f2.f2,.slice E6 m.f2.length VC,.slice E7 m.f3.length g7_,.int .i64 m.f4] 34)) cF tE))
            have LN:=ah.mk (aA HBk.out tE)
            have HQ5:=ah.mk (HQb.out.below tE)
            have alH:=ah.mk (Kd.bQ (Kd.GM HRm.out (.cells #[.int .i64 m.f0,.bool m.f1.f0,.slice E2 m.f1.f1.length g2_,.string m.f1.f2.f0,.string m.f1.f2.f1,.bool m.f1.f2.f2,.slice E6 m.f2.length VC,.slice E7 m.f3.length g7_,.int .i64 m.f4] 34)) tE)
            clear ra0 ra1 ga0 ga1 tE x0 x1 x2 x3 x4 x5 x6 x7 x8 e1
            obtain ⟨ra0,ra1,ga0,ga1⟩:=pq HQ5.out.hq (Below.refl _ _)
            have y0:w5.cell? ⟨wb.heap.size,0,none⟩=some (.int .i64 m.f0):=(af LN.out 0).trans rfl
            have y1:w5.cell? ⟨wb.heap.size,1,none⟩=some (.bool m.f1.f0):=(af LN.out 1).trans rfl
            have y3:w5.cell? ⟨wb.heap.size,3,none⟩=some (.string m.f1.f2.f0):=(af LN.out 3).trans rfl
            have y4:w5.cell? ⟨wb.heap.size,4,none⟩=some (.string m.f1.f2.f1):=(af LN.out 4).trans rfl
            have y5:w5.cell? ⟨wb.heap.size,5,none⟩=some (.bool m.f1.f2.f2):=(af LN.out 5).trans rfl
            have y6:w5.cell? ⟨wb.heap.size,6,none⟩=some (.slice E6 m.f2.length VC):=(af LN.out 6).trans rfl
            by_cases hbg:b=gi
            ·as_aux_lemma=>
              have HBG:=ah.mk hbg
              have hst:jL m.f0 0 ms'= -1:=wJ 0 (HG2.out m (by rw [← hbg];exact Vm.out)).2
              have HW:=ah.mk (HG2.out m (by rw [← hbg];exact Vm.out)).1
              rw [hst,(NP hbg).2]
              clear hst hbg
              go_wp2_with fail
              clear y0 y1 y3 y4 y5 y6 ra0 ra1 ga0 ga1
              go_loopw [15,100] (fun fl i wq=>∃ p:Nat,p≤m.f2.length∧fl= .int .i64 (cntF (m.f2.take p):Int)∧i= .int .i64 p∧ah (Below w5.heap.size w5 wq)) (fun _ i _ =>m.f2.length - (intOf i).toNat)
              case atStart=>exact ⟨0,Nat.zero_le _,by simp [cntF],rfl,⟨Below.refl _ _⟩⟩
              case round=>
               obtain ⟨p,hp,rfl,rfl,EN⟩:=hrel
               by_cases hpl:p < m.f2.length
               ·as_aux_lemma=>
                 have hcb:cntF (m.f2.take p)≤100:=by have:=Q8 (m.f2.take p);rw [List.length_take] at this;omega
                 obtain ⟨r,hr⟩:∃ r,m.f2[p]? =some r:=⟨m.f2[p],List.getElem?_eq_getElem hpl⟩
                 have hx:=nQ alH.out (p:Int) az az
                 rw [show bM m.f2 (p:Int)=r by unfold bM;simp [List.getD_eq_getElem?_getD,hr],Int.toNat_natCast] at hx
                 obtain ⟨ad2,rfl,hx0,hx1,hx2,hx3,ET,BF⟩:=hx
                 replace hx0:=(EN.out.cell (World.block_lt_of_cell? w5 _ hx0)).trans hx0
                 replace hx1:=(EN.out.cell (World.block_lt_of_cell? w5 _ hx1)).trans hx1
                 replace hx2:=(EN.out.cell (World.block_lt_of_cell? w5 _ hx2)).trans hx2
                 replace hx3:=(EN.out.cell (World.block_lt_of_cell? w5 _ hx3)).trans hx3
                 replace ET:=(EN.out.cell (World.block_lt_of_cell? w5 _ ET)).trans ET
                 replace BF:=(EN.out.cell (World.block_lt_of_cell? w5 _ BF)).trans BF
                 have HRr:=ah.mk hr
                 have e1:decide ((p:Int) < (m.f2.length:Int))=true:=decide_eq_true az
                 clear hr
                 have h0:r.f1≠0:=HW.out.1 r (List.mem_of_getElem? HRr.out)
                 have e0:(r.f1 == 0)=false:=beq_eq_false_iff_ne.mpr h0
                 by_cases h2:r.f1=2
                 ·as_aux_lemma=>
                   have e2:(r.f1 == 2)=true:=beq_iff_eq.mpr h2
                   have HCS:=ah.mk (show cntF (m.f2.take (p + 1))=cntF (m.f2.take p) + 1 by rw [Bz _ _ _ HRr.out,if_pos h2])
                   clear h0 h2
                   go_wp2
                   go_roundw
                   case rel=>exact ⟨p + 1,az,by rw [HCS.out];simp,cF,⟨b9 EN.out _⟩⟩
                   case measure=>simp [intOf];omega
                 ·as_aux_lemma=>
                   have e2:(r.f1 == 2)=false:=beq_eq_false_iff_ne.mpr h2
                   have HCS:=ah.mk (show cntF (m.f2.take (p + 1))=cntF (m.f2.take p) by rw [Bz _ _ _ HRr.out,if_neg h2])
                   clear h0 h2
                   go_wp2
                   go_roundw
                   case rel=>exact ⟨p + 1,az,by rw [HCS.out],cF,⟨b9 EN.out _⟩⟩
                   case measure=>simp [intOf];omega
               ·as_aux_lemma=>
                 have e1:decide ((p:Int) < (m.f2.length:Int))=false:=decide_eq_false az
                 rw [show m.f2.take p=m.f2 from List.take_of_length_le az]
                 obtain ⟨wq,hwq⟩:∃ wq,wq=wr:=⟨_,rfl⟩
                 subst hwq
                 have HQq:=ah.mk (HQ5.out.below EN.out)
                 have Sz:=ah.mk (aA LN.out EN.out)
                 have HBq:=ah.mk (dL LV.out LV.out.size EN.out)
                 obtain ⟨ra0,ra1,ga0,ga1⟩:=pq HQq.out.hq (Below.refl _ _)
                 have z0:wq.cell? ⟨wb.heap.size,0,none⟩=some (.int .i64 m.f0):=(af Sz.out 0).trans rfl
                 have z3:wq.cell? ⟨wb.heap.size,3,none⟩=some (.string m.f1.f2.f0):=(af Sz.out 3).trans rfl
                 have z4:wq.cell? ⟨wb.heap.size,4,none⟩=some (.string m.f1.f2.f1):=(af Sz.out 4).trans rfl
                 have z5:wq.cell? ⟨wb.heap.size,5,none⟩=some (.bool m.f1.f2.f2):=(af Sz.out 5).trans rfl
                 have hfp:=LM m.f2
                 have hcap:ms'.length≤c':=(Kd.fu HQq.out.hs).2.1
                 rcases HW.out.2 with ⟨ho,b',r',hn,hb1,hb2,hb3⟩|⟨ho,hn⟩
                 ·as_aux_lemma=>
                   have HN:=ah.mk hn
                   have hl1:new.length=1:=by rw [hn];rfl
                   have HB':=ah.mk (show ms'[old.length]? =some b' by rw [HRD.out.app,List.getElem?_append_right (Nat.le_refl _),Nat.sub_self,hn];rfl)
                   rw [Bool.and_eq_true] at ho
                   rw [ho.1] at hfp
                   have hfr:(0:Int) < (cntF m.f2:Int):=of_decide_eq_true hfp
                   have hfq: 0 < cntF m.f2:=by omega
                   have z1:wq.cell? ⟨wb.heap.size,1,none⟩=some (.bool false):=by rw [show false=m.f1.f0 by have:=ho.2;revert this;cases m.f1.f0<;>simp];exact (af Sz.out 1).trans rfl
                   have hlo:(ms'.length:Int) - 1=(old.length:Int):=by have:=HLEN.out;omega
                   have aGA:(old.length:Int)≤(ms'.length:Int):=by omega
                   have azX: ¬ ((old.length:Int) < 0):=by omega
                   have hld:old.length + 1=ms'.length:=by omega
                   have hli:(new.length:Int)=1:=by omega
                   have HLo:=ah.mk hlo
                   obtain ⟨gr,cr,u2,u6,u7,okr,hvr,azY,hcr,La,UQ,hS7,-⟩:=HQq.out.Jg old.length b' HB'.out
                   injection hvr with azZ aGD az0
                   subst azZ az0
                   obtain ⟨gt,ct,rfl,-⟩:=Kd.Ap UQ (by rw [hb2];simp)
                   obtain ⟨⟨t0,t1,t2,-,-,-⟩,-,-⟩:=tF UQ 0 r' (by rw [hb2];rfl)
                   have k1:wq.cell? ⟨gr,old.length * 9 + 1,none⟩=some (.bool true):=by rw [← hb1];exact hcr 1 _ rfl
                   have k6:wq.cell? ⟨gr,old.length * 9 + 6,none⟩=some (.slice (some ⟨gt,0,none⟩) 1 ct):=by have:=hcr 6 _ rfl;rw [hb2] at this;exact this
                   rw [hb3] at t0 t1 t2
                   clear hn hl1 ho hlo hb1 hb2 hb3 hcr La UQ hS7 azY
                   go_wp2_with fail
                   rw [show ms'.length - 1=old.length by omega,show ms'.length - old.length=1 by omega]
                   go_quiet (fail)
                   go_wp2_with fail
                   rw [hli]
                   go_roundw
                   case rel=>exact ⟨b + 1,az,zf,cF,⟨below_drewN HBq.out _⟩⟩
                   case measure=>simp [intOf];omega
                 ·as_aux_lemma=>
                   have hl0:new.length=0:=by rw [hn];rfl
                   have azX: ¬ ((ms'.length:Int) < 0):=by omega
                   have hli:(new.length:Int)=0:=by omega
                   clear hn hl0
                   by_cases hf:hasB m.f2 2=true
                   ·as_aux_lemma=>
                     have ab5:m.f1.f0=true:=by rw [hf] at ho;revert ho;cases m.f1.f0<;>simp
                     rw [hf] at hfp
                     have hfr:(0:Int) < (cntF m.f2:Int):=of_decide_eq_true hfp
                     have hfq: 0 < cntF m.f2:=by omega
                     have z1:wq.cell? ⟨wb.heap.size,1,none⟩=some (.bool true):=by rw [← ab5];exact (af Sz.out 1).trans rfl
                     clear ho hf ab5
                     by_cases hcc:c'=ms'.length
                     ·as_aux_lemma=>
                       subst hcc
                       go_wp2_with fail
                       go_quiet (fail)
                       go_wp2_with fail
                       rw [hli]
                       go_roundw
                       case rel=>exact ⟨b + 1,az,zf,cF,⟨below_drewN HBq.out _⟩⟩
                       case measure=>simp [intOf];omega
                     ·as_aux_lemma=>
                       go_wp2_with fail
                       go_quiet (fail)
                       go_wp2_with fail
                       rw [hli]
                       go_roundw
                       case rel=>exact ⟨b + 1,az,zf,cF,⟨below_drewN HBq.out _⟩⟩
                       case measure=>simp [intOf];omega
                   ·as_aux_lemma=>
                     have hfr: ¬ (0:Int) < (cntF m.f2:Int):=fun h=>hf (by rw [← hfp];exact decide_eq_true h)
                     have hfq:cntF m.f2=0:=by omega
                     rw [hfq]
                     clear ho hf hfp hfr hfq
                     by_cases hcc:c'=ms'.length
                     ·as_aux_lemma=>
                       subst hcc
                       go_wp2_with fail
                       go_quiet (fail)
                       go_wp2_with fail
                       rw [hli]
                       go_roundw
                       case rel=>exact ⟨b + 1,az,zf,cF,⟨below_drewN HBq.out _⟩⟩
                       case measure=>simp [intOf];omega
                     ·as_aux_lemma=>
                       go_wp2_with fail
                       go_quiet (fail)
                       go_wp2_with fail
                       rw [hli]
                       go_roundw
                       case rel=>exact ⟨b + 1,az,zf,cF,⟨below_drewN HBq.out _⟩⟩
                       case measure=>simp [intOf];omega
            ·as_aux_lemma=>
              have HBG:=ah.mk hbg
              obtain ⟨m',hm',hke⟩:=HG1.out b m Vm.out hbg
              have HM':=ah.mk (And.intro hm' hke)
              have h60: 1≤m.f2.length:=(mW (HI.out.good m (List.mem_of_getElem? Vm.out))).to0
              have az2: 0≤jL m.f0 0 ms':=(Q9 HI'.out hm' hke (List.getElem?_eq_getElem h60)).1
              have hst:decide (jL m.f0 0 ms' < 0)=false:=decide_eq_false az
              clear hm' hke hbg y1 y3 y4 y5
              go_wp2_with fail
              clear hst az2 y0 y6 ra0 ra1 ga0 ga1
              go_loopw [169] (fun i wq=>∃ p:Nat,p≤m.f2.length∧i= .int .i64 p∧ah (Below w5.heap.size w5 wq)) (fun i _ =>m.f2.length - (intOf i).toNat)
              case atStart=>exact ⟨0,Nat.zero_le _,rfl,⟨Below.refl _ _⟩⟩
              case round=>
               obtain ⟨p,hp,rfl,EN⟩:=hrel
               obtain ⟨wq,hwq⟩:∃ wq,wq=wr:=⟨_,rfl⟩
               subst hwq
               by_cases hpl:p < m.f2.length
               ·as_aux_lemma=>
                 obtain ⟨r,hr⟩:∃ r,m.f2[p]? =some r:=⟨m.f2[p],List.getElem?_eq_getElem hpl⟩
                 have hx:=nQ alH.out (p:Int) az az
                 rw [show bM m.f2 (p:Int)=r by unfold bM;simp [List.getD_eq_getElem?_getD,hr],Int.toNat_natCast] at hx
                 obtain ⟨ad2,rfl,hx0,hx1,hx2,hx3,ET,BF⟩:=hx
                 replace hx0:=(EN.out.cell (World.block_lt_of_cell? w5 _ hx0)).trans hx0
                 replace hx1:=(EN.out.cell (World.block_lt_of_cell? w5 _ hx1)).trans hx1
                 replace hx2:=(EN.out.cell (World.block_lt_of_cell? w5 _ hx2)).trans hx2
                 replace hx3:=(EN.out.cell (World.block_lt_of_cell? w5 _ hx3)).trans hx3
                 replace ET:=(EN.out.cell (World.block_lt_of_cell? w5 _ ET)).trans ET
                 replace BF:=(EN.out.cell (World.block_lt_of_cell? w5 _ BF)).trans BF
                 have HRr:=ah.mk hr
                 have e1:decide ((p:Int) < (m.f2.length:Int))=true:=decide_eq_true az
                 clear hr
                 have HQp:=ah.mk ((HQ5.out.below EN.out).below (b9 (Below.refl _ _) (.cells #[.string r.f0.f0,.string r.f0.f1,.bool r.f0.f2,.int .u8 r.f1,.int .i64 r.f2,.int .i64 r.f3] 37)))
                 have HBr:=ah.mk (jg wq (.cells #[.string r.f0.f0,.string r.f0.f1,.bool r.f0.f2,.int .u8 r.f1,.int .i64 r.f2,.int .i64 r.f3] 37))
                 have hka:=Q9 HI'.out HM'.out.1 HM'.out.2 HRr.out
                 have hsr:=sts HI.out m (List.mem_of_getElem? Vm.out) r (List.mem_of_getElem? HRr.out)
                 have HKA:=ah.mk hka
                 have HSR:=ah.mk hsr
                 clear hka hsr
                 obtain ⟨ra0,ra1,ga0,ga1⟩:=pq HQp.out.hq (Below.refl _ _)
                 have z0:(wq.alloc (.cells #[.string r.f0.f0,.string r.f0.f1,.bool r.f0.f2,.int .u8 r.f1,.int .i64 r.f2,.int .i64 r.f3] 37)).cell? ⟨wb.heap.size,0,none⟩=some (.int .i64 m.f0):=(af (aA LN.out (b9 EN.out (.cells #[.string r.f0.f0,.string r.f0.f1,.bool r.f0.f2,.int .u8 r.f1,.int .i64 r.f2,.int .i64 r.f3] 37))) 0).trans rfl
                 go_wp2_with fail
                 refine (cT.calls k n' A' c' ms' m.f0 p (jL m.f0 p ms') _ (Kd.fu HQp.out.hs).2.2 (Kd.fu HQp.out.hs).2.1 (HSE.out p)).mono ?_
                 rintro e w6 ⟨rfl,K8⟩
                 have UR:=ah.mk (dL EN.out EN.out.size (dL (b9 (Below.refl _ _) (.cells #[.string r.f0.f0,.string r.f0.f1,.bool r.f0.f2,.int .u8 r.f1,.int .i64 r.f2,.int .i64 r.f3] 37)) cF K8))
                 have HB7:=ah.mk (aA HBr.out K8)
                 clear ra0 ra1 ga0 ga1 z0 hx0 hx1 hx2 hx3 ET BF e1 K8
                 have q3:w6.cell? ⟨wq.heap.size,3,none⟩=some (.int .u8 r.f1):=(af HB7.out 3).trans rfl
                 have hge: 0≤jL m.f0 p ms':=HKA.out.1
                 have az5:jL m.f0 p ms'≤2:=HKA.out.2.1
                 have hor:=HKA.out.2.2
                 have hs3:r.f1=0∨r.f1=1∨r.f1=2:=by have:=HSR.out;omega
                 generalize jL m.f0 p ms'=V at hge az5 hor
                 have e2:decide (V < 0)=false:=decide_eq_false az
                 rcases hs3 with h0|h0|h0
                 ·as_aux_lemma=>
                   rw [h0] at q3
                   clear h0 hor
                   go_wp2
                   go_roundw
                   case rel=>exact ⟨p + 1,az,cF,UR⟩
                   case measure=>simp [intOf];omega
                 ·as_aux_lemma=>
                   rw [h0] at q3
                   obtain rfl:V=1:=by omega
                   clear h0 hor
                   go_wp2
                   go_roundw
                   case rel=>exact ⟨p + 1,az,cF,UR⟩
                   case measure=>simp [intOf];omega
                 ·as_aux_lemma=>
                   rw [h0] at q3
                   obtain rfl:V=2:=by omega
                   clear h0 hor
                   go_wp2
                   go_roundw
                   case rel=>exact ⟨p + 1,az,cF,UR⟩
                   case measure=>simp [intOf];omega
               ·as_aux_lemma=>
                 have e1:decide ((p:Int) < (m.f2.length:Int))=false:=decide_eq_false az
                 have HBq:=ah.mk (dL LV.out LV.out.size EN.out)
                 go_wp2_with fail
                 go_roundw
                 case rel=>exact ⟨b + 1,az,by rw [aeF HBG.out],cF,HBq⟩
                 case measure=>simp [intOf];omega
          ·as_aux_lemma=>
            have e1:decide ((b:Int) < (ms.length:Int))=false:=decide_eq_false az
            obtain rfl:b=ms.length:=by omega
            have HOb:=ah.mk (HO.out.below HBL.out)
            have HQb:=ah.mk (HQ.out.below HBL.out)
            obtain ⟨ra0,ra1,ga0,ga1⟩:=pq HOb.out.q.hq (Below.refl _ _)
            obtain ⟨sa0,sa1,va0,va1⟩:=pq HQb.out.hq (Below.refl _ _)
            have hgl:SH gi ms.length≤1:=by unfold SH;split<;>omega
            have hle:=HLE.out
            have hnw:=aeH.out
            have d1:decide ((ms'.length:Int)=(ms.length:Int) + (new.length:Int) - (SH gi ms.length:Int))=true:=decide_eq_true (by have:=HG3.out;have:=HLEN.out;omega)
            have HOp:=ah.mk (HOb.out.put HQb.out)
            go_wp2_with fail
            all_goals first|(exfalso;have:=HG3.out;have:=HLEN.out;omega)|skip
            go_roundw
            case rel=>exact ⟨j + 1,K2,D2,n',_,ms',az,cF,HI',HOp,HU3,⟨by have:=SA.out;have:=HCM.out;have:=aeH.out;omega⟩⟩
            case measure=>simp [intOf];omega
  ·as_aux_lemma=>
    have e1:decide ((j:Int) < ((min l.length 40:Nat):Int))=false:=decide_eq_false az
    have hjx: ¬ (j:Int) < ((min l.length 40:Nat):Int):=by omega
    have H8:=ah.mk (tG.LI k Cw)
    go_wp2_with (go_at_call 22;refine (fI.calls k true _ (HG.out.below HO.out.q.bl) H8.out).mono ?_;rintro e w3 ⟨rfl,hb3⟩;have HB3:=ah.mk (dL HO.out.q.bl HO.out.q.bl.size hb3);clear hb3)
    go_ret
    exact ⟨rfl,HB3.out⟩
end Go.Proofs.YtbjjaaodfbjkfaaGreatDoor.mU
