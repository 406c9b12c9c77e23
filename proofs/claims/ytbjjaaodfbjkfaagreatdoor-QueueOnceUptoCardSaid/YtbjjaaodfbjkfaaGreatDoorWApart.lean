import Derived.Test.YtbjjaaodfbjkfaaGreatDoorWWords
import Derived.Test.YtbjjaaodfbjkfaaGreatDoorWLast
namespace Go.Proofs.ak.bR
open Go.RowKit
namespace Kd
def tag {α:Type} (f:Nat→Nat) (d:Kd α):Kd (α×Nat) where
 sz:=d.sz
 E:=d.E
 K:=fun w x cs=>d.K w x.1 cs
 M:=fun w base ok x cs=>d.M w base (fun k=>ok k∧f k=x.2) x.1 cs
 oD:=fun h=>d.oD h
 nV:=fun h=>d.nV h
 ld:=fun hb h=>d.ld hb h
 jR:=fun h=>d.jR h
 gy:=fun hok h=>d.gy (fun k hk=>⟨hok k hk.1,hk.2⟩) h
 jS:=fun h=>d.gy (fun _ hk=>⟨⟨hk.1.1,hk.2⟩,hk.1.2⟩) (d.jS h)
 kR:=fun hm h=>d.kR (fun k hk=>hm k hk.1) h
 lf:=fun hb h=>d.lf hb h
def bare {α:Type} (d:Kd α):Kd α where
 sz:=d.sz
 E:=d.E
 K:=d.K
 M:=fun w base _ x cs=>d.M w base (fun _ =>False) x cs
 oD:=fun h=>d.oD h
 nV:=fun h=>d.nV h
 ld:=fun hb h=>d.ld hb h
 jR:=fun h=>d.jR h
 gy:=fun _ h=>h
 jS:=fun h=>h
 kR:=fun _ h=>d.kR (fun _ hk=>hk.elim) h
 lf:=fun hb h=>d.lf hb h
def raw (sz:Nat):Kd (List Value) where
 sz:=sz
 E:=[]
 K:=fun _ x cs=>cs=x∧cs.length=sz∧∀ u∈cs,u.oneCell'=true
 M:=fun _ _ _ x cs=>cs=x∧cs.length=sz∧∀ u∈cs,u.oneCell'=true
 oD:=fun h=>h.2.1
 nV:=fun h=>h.2.2
 ld:=fun _ h=>h
 jR:=fun h=>h
 gy:=fun _ h=>h
 jS:=fun h=>h
 kR:=fun _ h=>h
 lf:=fun _ h=>h
def S {α:Type} (d:Kd α) (e:Nat) (w:World) (base:Nat) (ok:Nat→Prop) (v:Value) (xs:List α):Prop:=∃ f,(tag f d).R e w base ok v xs.zipIdx
section
variable {α β:Type} {d:Kd α} {d':Kd β} {e e':Nat} {w w1 W:World} {base b:Nat} {ok ok' okv oku:Nat→Prop} {u v:Value} {xs:List α} {ys:List β}
theorem Au {xs:List α} {j:Nat} {p:α} (h:xs[j]? =some p):xs.zipIdx[j]? =some (p,j):=by rw [List.getElem?_zipIdx,h,Nat.zero_add];rfl
theorem Vq (h:S d e w base ok v xs):d.R e w base ok v xs:=by
 obtain ⟨f,h0,inner,ho,hr⟩:=h
 rw [List.length_zipIdx] at ho
 exact ⟨h0,inner,ho,by have:=hr.1;rw [List.length_zipIdx] at this;exact this,fun j p hj=>d.gy (fun _ hk=>hk.1) (hr.2 j (p,j) (Au hj))⟩
theorem acp {ad:Addr} {n cap:Nat} (h:d.R e w base ok (.slice (some ad) n cap) xs):∃ g,ad=⟨g,0,none⟩:=by
 obtain ⟨_,inner,ho,hr⟩:=h
 rcases ho.2 with ⟨hv,_⟩|⟨g,cap',cur,hv,_⟩
 ·cases hv
 ·injection hv with ha _ _
  injection ha with ha
  exact ⟨g,ha⟩
theorem zo (hE:d.E= []) (h:d.R e w base ok v xs):d.R e w base (fun k=>some k=v.ownBlock) v xs:=by
 obtain ⟨h0,inner,ho,hr⟩:=h
 refine ⟨fun k hk=>hk.symm,inner,ho,hr.vL (fun p c hp=>d.gy (fun k hk=>?_) (d.jS hp))⟩
 obtain ⟨_,_,_,q,hq,_⟩:=hk
 rw [hE] at hq
 cases hq
theorem abe (d:Kd α) (e:Nat) (w:World) (base:Nat) (ok:Nat→Prop):S d e w base ok (.slice none 0 0) []:=⟨fun _ =>0,BA _ _ _ _ _⟩
theorem fB (h:S d e w base ok v xs) (hok:∀ k,ok k→ok' k):S d e w base ok' v xs:=by
 obtain ⟨f,h⟩:=h
 exact ⟨f,dH h hok⟩
theorem Cy (h:S d e w base ok v xs):S d e w base (fun k=>ok k∧base≤k∧k < w.heap.size∧∃ q,q∈e :: d.E∧∃ cells,w.heap[k]? =some (.cells cells q (0,0))) v xs:=by
 obtain ⟨f,h⟩:=h
 exact ⟨f,nI h⟩
theorem acq (h:S d e w base ok v xs) (hm:∀ k,ok k→w1.heap[k]? =w.heap[k]?):S d e w1 base ok v xs:=by
 obtain ⟨f,h⟩:=h
 exact ⟨f,DC h hm⟩
theorem oF {base':Nat} (h:S d e w base ok v xs) (hb:base'≤base):S d e w base' ok v xs:=by
 obtain ⟨f,h⟩:=h
 exact ⟨f,dX h hb⟩
theorem Mj (h:S d e w base ok v xs) (hm:∀ k,ok k→k < w.heap.size→w1.heap[k]? =w.heap[k]?):S d e w1 base ok v xs:=
 fB (acq (Cy h) (fun k hk=>hm k hk.1 hk.2.2.1)) (fun _ hk=>hk.1)
theorem dY (h:S d e w base ok v xs) (hb:Below w.heap.size w w1):S d e w1 base ok v xs:=Mj h (fun k _ hk=>hb.block k hk)
theorem Oa (h:S d e w base ok v xs) (o:Obj):S d e (w.alloc o) base ok v xs:=dY h (b9 (Below.refl _ _) o)
theorem TC (h:S d e w base ok v xs):S d e w.drew base ok v xs:=dY h (yM (Below.refl _ _))
theorem VJ (h:S d e w base ok v xs) {row:Option Nat} (hg:w.grownBy w1 row) (hok:∀ k,ok k→some k≠row):S d e w1 base ok v xs:=Mj h (fun k ho hk=>hg.block k hk (hok k ho))
theorem cB (h:S d e w base ok v xs) {p:Addr} (hok:∀ k,ok k→k≠p.block) (u:Value):S d e (w.setCell p u) base ok v xs:=Mj h (fun k ho _ =>Below.heap_setCell w p u k (hok k ho))
theorem gw (h:S d e w base ok v xs) {g t:Nat} {cells:Array Value} (hb:w.heap[g]? =some (.cells cells t (0,0))) (ht:∀ q,q∈e :: d.E→q≠t):S d e w base (fun k=>ok k∧k≠g) v xs:=by
 obtain ⟨f,h⟩:=h
 exact ⟨f,dD h hb ht⟩
theorem yg (h:S d e w base ok v xs) {g t:Nat} {cells:Array Value} (hb:w.heap[g]? =some (.cells cells t (0,0))) (ht:∀ q,q∈e :: d.E→q≠t) (j:Nat) (u:Value):S d e (w.setCell ⟨g,j,none⟩ u) base ok v xs:=
 fB (cB (p:=⟨g,j,none⟩) (gw h hb ht) (fun _ hk=>hk.2) u) (fun _ hk=>hk.1)
theorem xp (h:S d e w base ok v xs):∀ k,v.ownBlock=some k→∃ cells,w.heap[k]? =some (.cells cells e (0,0)):=VG (Vq h)
theorem qT (h:S d e w base ok v xs):∀ k,v.ownBlock=some k→k < w.heap.size:=mG (Vq h)
theorem kH (h:S d e w base ok v xs):∀ k,v.ownBlock=some k→base≤k:=fV (Vq h)
theorem fP (h:S d e W base ok u xs) (hbase:∀ k,v.ownBlock=some k→W.heap.size≤k) (hb:Below W.heap.size W w1):S d e w1 base (fun k=>ok k∧some k≠v.ownBlock) u xs:=by
 obtain ⟨f,h⟩:=h
 exact ⟨f,pY h hbase hb⟩
theorem fq (h:S d e w1 W.heap.size ok v xs) (hlt:∀ k,u.ownBlock=some k→k < W.heap.size):S d e w1 W.heap.size (fun k=>ok k∧some k≠u.ownBlock) v xs:=by
 obtain ⟨f,h⟩:=h
 exact ⟨f,vX h hlt⟩
theorem zq (h:S d e W base ok u xs) (hb:Below W.heap.size W w1):S d e w1 base (fun k=>ok k∧k < W.heap.size) u xs:=
 fB (dY (Cy h) hb) (fun _ hk=>⟨hk.1,hk.2.2.1⟩)
theorem VK {f:Nat→Nat} {k:Nat} (h:(tag f d).R e w base ok v (xs.zipIdx.eraseIdx k)):S d e w base ok v (xs.eraseIdx k):=by
 obtain ⟨h0,inner,ho,hr⟩:=h
 have hl:(xs.zipIdx.eraseIdx k).length=(xs.eraseIdx k).length:=by simp only [List.length_eraseIdx,List.length_zipIdx]
 rw [hl] at ho
 refine ⟨fun b=>if k < f b then f b - 1 else f b,h0,inner,by rw [List.length_zipIdx];exact ho,by rw [List.length_zipIdx,← hl];exact hr.1,fun j p hj=>?_⟩
 rw [List.getElem?_zipIdx,Nat.zero_add] at hj
 obtain ⟨x,hx,rfl⟩:=Option.map_eq_some_iff.1 hj
 rw [List.getElem?_eraseIdx] at hx
 by_cases hjk:j < k
 ·rw [if_pos hjk] at hx
  refine d.gy (fun b hb=>⟨hb.1,?_⟩) (hr.2 j (x,j) (by rw [List.getElem?_eraseIdx,if_pos hjk];exact Au hx))
  have h2:f b=j:=hb.2
  show (if k < f b then f b - 1 else f b)=j
  rw [if_neg fy];exact h2
 ·rw [if_neg hjk] at hx
  refine d.gy (fun b hb=>⟨hb.1,?_⟩) (hr.2 j (x,j + 1) (by rw [List.getElem?_eraseIdx,if_neg hjk];exact Au hx))
  have h2:f b=j + 1:=hb.2
  show (if k < f b then f b - 1 else f b)=j
  rw [if_pos fy];omega
theorem afm {f f':Nat→Nat} {zs:List (α×Nat)} (h:(tag f d).R e w base ok v zs) (hf:∀ k,ok k→k < w.heap.size→f' k=f k):(tag f' d).R e w base ok v zs:=by
 obtain ⟨h0,inner,ho,hr⟩:=nI h
 exact ⟨fun k hk=>(h0 k hk).1,inner,ho,hr.1,fun j p hj=>d.gy (fun k hk=>⟨⟨hk.1.1.1,hk.1.2⟩,(hf k hk.1.1.1 hk.1.1.2.2.1).trans hk.2⟩) (hr.2 j p hj)⟩
end
section
variable {α β:Type} {d:Kd α} {d':Kd β} {e e' g:Nat} {w w1 W:World} {base b:Nat} {ok ok' okv oku:Nat→Prop} {u v:Value} {xs:List α} {ys:List β}
theorem Mk (h:S d e w base ok v xs) {t:Nat} {cells:Array Value} (hb:w.heap[g]? =some (.cells cells t (0,0))) (ht:e≠t):some g≠v.ownBlock:=zk (Vq h) hb ht
theorem acr (h:S d e w base ok v xs) (hok:∀ k,ok k→k≠g):some g≠v.ownBlock:=ach (Vq h) hok
theorem acs (h:S d e w base ok v xs) (hp: 0 < xs.length):∃ g cap,v= .slice (some ⟨g,0,none⟩) xs.length cap∧base≤g∧g < w.heap.size∧∃ cells,w.heap[g]? =some (.cells cells e (0,0)):=Ap (Vq h) hp
theorem iH (h:S d e w base ok v xs):∃ A c,v= .slice A xs.length c:=dm (Vq h)
theorem fu {A:Option Addr} {n c:Nat} (h:S d e w base ok (.slice A n c) xs):n=xs.length∧n≤c∧d.C w A xs.length xs:=ck (Vq h)
theorem abf (h:S d e w base ok v xs):∃ inner,w.ownsRow base e d.sz v xs.length inner:=Fk (Vq h)
theorem TD (h:S d e w base ok v xs) (a:Nat) (ha:w.heap.size≤a):S d e w base (fun k=>ok k∧k≠a) v xs:=fB (Cy h) (fun k hk=>⟨hk.1,by have:=hk.2.2.1;omega⟩)
theorem jV {N:Nat} (h:S d e w1 base (fun k=>ok k∧k < N) u xs) (hbase:∀ k,v.ownBlock=some k→N≤k):S d e w1 base (fun k=>(ok k∧some k≠v.ownBlock)∧k < N) u xs:=
 fB h (fun k hk=>⟨⟨hk.1,fun e=>Nat.lt_irrefl _ (Nat.lt_of_lt_of_le hk.2 (hbase k e.symm))⟩,hk.2⟩)
theorem TE (xs:List α) (p:α):(xs ++ [p]).zipIdx=xs.zipIdx ++ [(p,xs.length)]:=by rw [List.zipIdx_append];simp
end
section
open Classical in
theorem afn {α:Type} {d:Kd α} {e base:Nat} {okv:Nat→Prop} {w:World} {v:Value} {xs:List α} (h:S d e w base okv v xs) (m:Nat) (pR:Nat→Prop) (hap:∀ k,pR k→¬ okv k):∃ f,(∀ k,pR k→f k=m)∧(tag f d).R e w base okv v xs.zipIdx:=by
 obtain ⟨f,h⟩:=h
 exact ⟨fun k=>if pR k then m else f k,fun k hk=>if_pos hk,afm h (fun k hk _ =>if_neg (fun h2=>hap k h2 hk))⟩
variable {P:Program} {ops:Array Oper} {rest:List Oper} {o:Oper} {a:Act} {Q:Exit→Act→World→Prop} {Kc:Act→World→Prop} {α:Type}
theorem yh (d:Kd α) {w0 W:World} (base:Nat) (hw:Region.wanted o (yielded ops a.tmps)=true) (s x:Operand) (t e:TypeId) (z:Value) (bytes:Nat)
 (ho:o.op= .call {callee:= .builtin .append,args:=#[s,x],argTypes:=#[t,t]})
 (ht:P.underlying t=some (.slice e)) (hinfo:(P.info? e).map (fun i=>(i.zero,i.size,i.bytes))=some (some z,d.sz,bytes)) (hz:z.cells.size=d.sz) (hs0: 0 < d.sz) (hb0: 0 < bytes)
 (v:Value) (xs:List α) (p:α) (cs:List Value) (ok pR:Nat→Prop) (hs:a.eval s=v) (hx:a.eval x= .slice (some ⟨W.heap.size,0,none⟩) 1 1) (hp:d.M W base pR p cs) (DF:∀ k,pR k→ok k∧some k≠v.ownBlock) (hfresh:∀ k,W.heap.size≤k→ok k)
 (HO:S d e W base (fun k=>ok k∧¬ pR k) v xs) (HB:Below base w0 W) (hbase:base≤W.heap.size) (hl:(xs.length + 1) * bytes≤140737488355328)
 (h:∀ v1 w1,S d e w1 base ok v1 (xs ++ [p])→Below base w0 w1→W.grownBy w1 v.ownBlock→(v1.ownBlock=v.ownBlock∨∃ b,v1.ownBlock=some b∧W.heap.size≤b)→Kc (a.put o.dst v1) w1):
 if Region.wanted o (yielded ops a.tmps)=true then Oper.wp P o a (W.alloc (.cells cs.toArray e)) Kc Q else Kc (a.put o.dst undef) (W.alloc (.cells cs.toArray e)):=by
 obtain ⟨f,hf,hR⟩:=afn HO xs.length pR (fun _ hk h2=>h2.2 hk)
 refine EX (tag f d) base hw s x t e z bytes ho ht hinfo hz hs0 hb0 v xs.zipIdx (p,xs.length) cs ok pR hs hx (d.gy (fun k hk=>⟨hk,hf k hk⟩) hp) DF hfresh (dH hR (fun _ hk=>hk.1)) HB hbase (by rw [List.length_zipIdx];exact hl) ?_
 intro v1 w1 hr
 rw [← TE] at hr
 exact h v1 w1 ⟨f,hr⟩
end
def gap {α:Type} (f:Nat→Nat) (d:Kd α) (i:Nat) (c:List Value):Kd (α×Nat) where
 sz:=d.sz
 E:=d.E
 K:=fun w x cs=>(x.2=i→cs=c∧cs.length=d.sz∧∀ u∈cs,u.oneCell'=true)∧(x.2≠i→d.K w x.1 cs)
 M:=fun w base ok x cs=>(x.2=i→cs=c∧cs.length=d.sz∧∀ u∈cs,u.oneCell'=true)∧(x.2≠i→d.M w base (fun k=>ok k∧f k=x.2) x.1 cs)
 oD:=fun {w x cs} h=>by
  by_cases hx:x.2=i
  ·exact (h.1 hx).2.1
  ·exact d.oD (h.2 hx)
 nV:=fun {w x cs} h=>by
  by_cases hx:x.2=i
  ·exact (h.1 hx).2.2
  ·exact d.nV (h.2 hx)
 ld:=fun hb h=>⟨h.1,fun hx=>d.ld hb (h.2 hx)⟩
 jR:=fun h=>⟨h.1,fun hx=>d.jR (h.2 hx)⟩
 gy:=fun hok h=>⟨h.1,fun hx=>d.gy (fun k hk=>⟨hok k hk.1,hk.2⟩) (h.2 hx)⟩
 jS:=fun h=>⟨h.1,fun hx=>d.gy (fun _ hk=>⟨⟨hk.1.1,hk.2⟩,hk.1.2⟩) (d.jS (h.2 hx))⟩
 kR:=fun hm h=>⟨h.1,fun hx=>d.kR (fun k hk=>hm k hk.1) (h.2 hx)⟩
 lf:=fun hb h=>⟨h.1,fun hx=>d.lf hb (h.2 hx)⟩
def H {α:Type} (d:Kd α) (e:Nat) (w:World) (base:Nat) (ok:Nat→Prop) (v:Value) (xs:List α) (i:Int) (qu:Nat→Prop) (c:List Value):Prop:=
 (∀ k,qu k→ok k)∧∃ f,(gap f d i.toNat c).R e w base (fun k=>ok k∧¬ qu k) v xs.zipIdx
section
variable {α β:Type} {d:Kd α} {e e' g n cap:Nat} {w w1 W:World} {base:Nat} {ok ok' qu pR:Nat→Prop} {u v:Value} {xs:List α} {i:Int} {c:List Value}
theorem acu (h:S d e W base ok (.slice (some ⟨g,0,none⟩) n cap) xs) (z:α) (i:Int) (h0: 0≤i) (h1:i < n):
 ∃ (qu:Nat→Prop) (c:List Value),c.length=d.sz∧d.M W base qu (xs.getD i.toNat z) c∧(∀ j u,c[j]? =some u→W.cell? ⟨g,i.toNat * d.sz + j,none⟩=some u)∧(∀ k,qu k→ok k∧k≠g)∧H d e W base ok (.slice (some ⟨g,0,none⟩) n cap) xs i qu c:=by
 obtain ⟨f,hR⟩:=h
 have hn:=(ck hR).1
 rw [List.length_zipIdx] at hn
 have hgo:some g=(Value.slice (some ⟨g,0,none⟩) n cap).ownBlock:=by simp [Value.ownBlock]
 obtain ⟨hok0,inner,ho,hr⟩:=hR
 have hil:i.toNat < xs.length:=by omega
 have hlen:inner.length=xs.length * d.sz:=by have:=hr.1;rw [List.length_zipIdx] at this;exact this
 have hseg:i.toNat * d.sz + d.sz≤inner.length:=by rw [hlen,← Nat.succ_mul];exact Nat.mul_le_mul_right _ hil
 have hM:=hr.2 i.toNat _ (Au (List.getElem?_eq_getElem hil))
 have hkg:∀ k,some k≠(Value.slice (some ⟨g,0,none⟩) n cap).ownBlock→k≠g:=fun k hk he=>hk (by rw [he];exact hgo)
 refine ⟨fun k=>(ok k∧k≠g)∧f k=i.toNat,(inner.drop (i.toNat * d.sz)).take d.sz,by rw [List.length_take,List.length_drop];omega,?_,fun j u hu=>?_,fun k hk=>hk.1,fun k hk=>hk.1.1,f,fun k hk=>⟨hok0 k hk,fun h2=>h2.1.2 ?_⟩,inner,ho,hr.1,fun m p hm=>?_⟩
 ·rw [List.getD_eq_getElem?_getD,List.getElem?_eq_getElem hil]
  exact d.gy (fun k hk=>⟨⟨hk.1.1,hkg k hk.1.2⟩,hk.2⟩) hM
 ·rw [List.getElem?_take] at hu
  split at hu
  ·rw [List.getElem?_drop] at hu
   have:=ho.cells (g:=g) hgo.symm _ u hu
   rwa [add_plain] at this
  ·cases hu
 ·rw [← hgo] at hk;injection hk with hk;exact hk.symm
 ·have hold:=hr.2 m p hm
  have hp2:p.2=m:=by
   rw [List.getElem?_zipIdx,Nat.zero_add] at hm
   obtain ⟨q,_,rfl⟩:=Option.map_eq_some_iff.1 hm
   rfl
  refine ⟨fun hx=>?_,fun hx=>d.gy (fun k hk=>⟨⟨⟨hk.1.1,fun h2=>hx ?_⟩,hk.1.2⟩,hk.2⟩) hold⟩
  ·have hmi:m=i.toNat:=by omega
   subst hmi
   exact ⟨rfl,d.oD (d.jR hM),d.nV (d.jR hM)⟩
  ·rw [← hk.2];exact h2.2
open Classical in
theorem acv (h:H d e w base ok v xs i qu c) {x':α} (hM:d.M w base pR x' c) (hok:∀ k,pR k→qu k):S d e w base ok v (xs.set i.toNat x'):=by
 obtain ⟨ho,f,h0,inner,hown,hr⟩:=h
 refine ⟨fun k=>if qu k then i.toNat else f k,fun k hk=>(h0 k hk).1,inner,by rw [List.length_zipIdx,List.length_set];rw [List.length_zipIdx] at hown;exact hown,by have:=hr.1;rw [List.length_zipIdx] at this;rw [List.length_zipIdx,List.length_set];exact this,fun m p hm=>?_⟩
 rw [List.getElem?_zipIdx,Nat.zero_add] at hm
 obtain ⟨q,hq,rfl⟩:=Option.map_eq_some_iff.1 hm
 have hml:m < xs.length:=by
  have:=(List.getElem?_eq_some_iff.1 hq).1
  rwa [List.length_set] at this
 by_cases hmi:m=i.toNat
 ·subst hmi
  rw [List.getElem?_set_self hml] at hq
  injection hq with hq
  subst hq
  have hc:=((hr.2 i.toNat _ (Au (List.getElem?_eq_getElem hml))).1 rfl).1
  show d.M w base _ x' ((inner.drop (i.toNat * d.sz)).take d.sz)
  rw [show (inner.drop (i.toNat * d.sz)).take d.sz=c from hc]
  exact d.gy (fun k hk=>⟨⟨ho k (hok k hk),fun he=>(h0 k he.symm).2 (hok k hk)⟩,if_pos (hok k hk)⟩) hM
 ·rw [List.getElem?_set_ne (Ne.symm hmi)] at hq
  exact d.gy (fun k hk=>⟨⟨hk.1.1.1,hk.1.2⟩,(if_neg hk.1.1.2).trans hk.2⟩) ((hr.2 m (q,m) (Au hq)).2 hmi)
theorem acw (h:H d e w base ok v xs i qu c) (hm:∀ k,ok k→¬ qu k→k < w.heap.size→w1.heap[k]? =w.heap[k]?):H d e w1 base ok v xs i qu c:=by
 obtain ⟨ho,f,h⟩:=h
 exact ⟨ho,f,Md h (fun k hk hlt=>hm k hk.1 hk.2 hlt)⟩
theorem VL (h:H d e w base ok v xs i qu c) {row:Option Nat} (hg:w.grownBy w1 row) (hrow:∀ k,row=some k→qu k):H d e w1 base ok v xs i qu c:=
 acw h (fun k _ hn hlt=>hg.block k hlt (fun he=>hn (hrow k he.symm)))
theorem TF {ad:Addr} (h:S d e W base ok (.slice (some ad) n cap) xs) (z:α) (i:Int) (h0: 0≤i) (h1:i < n):
 ∃ (qu:Nat→Prop) (c:List Value),c.length=d.sz∧d.M W base qu (xs.getD i.toNat z) c∧(∀ j u,c[j]? =some u→W.cell? (ad.add (i.toNat * d.sz + j))=some u)∧(∀ k,qu k→ok k∧some k≠(Value.slice (some ad) n cap).ownBlock)∧
   ∀ {w1:World} {row:Option Nat} {x':α},W.grownBy w1 row→(∀ k,row=some k→qu k)→d.M w1 base qu x' c→S d e w1 base ok (.slice (some ad) n cap) (xs.set i.toNat x'):=by
 obtain ⟨g,rfl⟩:=acp (Vq h)
 obtain ⟨qu,c,hcl,hM,hcc,afo,hH⟩:=acu h z i h0 h1
 refine ⟨qu,c,hcl,hM,fun j u hu=>?_,fun k hk=>⟨(afo k hk).1,fun he=>(afo k hk).2 ?_⟩,fun hg hrow hM1=>acv (VL hH hg hrow) hM1 (fun _ hk=>hk)⟩
 ·rw [Ty,Nat.zero_add]
  exact hcc j u hu
 ·simpa [Value.ownBlock] using he
end
section
variable {P:Program} {ops:Array Oper} {rest:List Oper} {o:Oper} {a:Act} {Q:Exit→Act→World→Prop} {α:Type}
theorem E1 {Kc:Act→World→Prop} (d:Kd α) {w0 W:World} (base:Nat) (hw:Region.wanted o (yielded ops a.tmps)=true) (s x:Operand) (t e:TypeId) (ho:o.op= .call {callee:= .builtin .append,args:=#[s,x],argTypes:=#[t,t]})
 (ht:P.underlying t=some (.slice e)) (hinfo:(P.info? e).map (·.size)=some d.sz) {g n c k m c2:Nat} {A:Option Addr} {xs:List α} {ok:Nat→Prop}
 (hs:a.eval s= .slice (some ⟨g,0,none⟩) k c) (hx:a.eval x= .slice A m c2) (hA:A=if c=k + 1 then some ⟨g,0,none⟩ else (some (⟨g,0,none⟩:Addr)).map (·.add ((k + 1) * d.sz))) (hm:m=n - (k + 1))
 (HO:S d e W base ok (.slice (some ⟨g,0,none⟩) n c) xs) (hk:k < n) (HB:Below base w0 W) (hbase:base≤W.heap.size)
 (h:∀ w1,S d e w1 base ok (.slice (some ⟨g,0,none⟩) (n - 1) c) (xs.eraseIdx k)→Below base w0 w1→W.grownBy w1 (some g)→Kc (a.put o.dst (.slice (some ⟨g,0,none⟩) (n - 1) c)) w1):
 if Region.wanted o (yielded ops a.tmps)=true then Oper.wp P o a W Kc Q else Kc (a.put o.dst undef) W:=by
 obtain ⟨f,HR⟩:=HO
 exact EY (tag f d) base hw s x t e ho ht hinfo hs hx hA hm HR hk HB hbase (fun w1 hr=>h w1 (VK hr))
end
end Kd
end Go.Proofs.ak.bR
