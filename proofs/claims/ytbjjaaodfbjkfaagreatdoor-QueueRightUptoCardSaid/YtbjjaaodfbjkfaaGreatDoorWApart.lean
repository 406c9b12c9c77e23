import Derived.Test.YtbjjaaodfbjkfaaGreatDoorWWords
import Derived.Test.YtbjjaaodfbjkfaaGreatDoorWLast
namespace Go.Proofs.ak.bQ
open Go.RowKit
namespace Kd
def tag {α:Type} (f:Nat→Nat) (d:Kd α):Kd (α×Nat) where
 sz:=d.sz
 E:=d.E
 K:=fun w x cs=>d.K w x.1 cs
 M:=fun w base ok x cs=>d.M w base (fun k=>ok k∧f k=x.2) x.1 cs
 ow:=fun h=>d.ow h
 nP:=fun h=>d.nP h
 kR:=fun hb h=>d.kR hb h
 jG:=fun h=>d.jG h
 gB:=fun hok h=>d.gB (fun k hk=>⟨hok k hk.1,hk.2⟩) h
 jH:=fun h=>d.gB (fun _ hk=>⟨⟨hk.1.1,hk.2⟩,hk.1.2⟩) (d.jH h)
 kJ:=fun hm h=>d.kJ (fun k hk=>hm k hk.1) h
 kS:=fun hb h=>d.kS hb h
def bare {α:Type} (d:Kd α):Kd α where
 sz:=d.sz
 E:=d.E
 K:=d.K
 M:=fun w base _ x cs=>d.M w base (fun _ =>False) x cs
 ow:=fun h=>d.ow h
 nP:=fun h=>d.nP h
 kR:=fun hb h=>d.kR hb h
 jG:=fun h=>d.jG h
 gB:=fun _ h=>h
 jH:=fun h=>h
 kJ:=fun _ h=>d.kJ (fun _ hk=>hk.elim) h
 kS:=fun hb h=>d.kS hb h
def raw (sz:Nat):Kd (List Value) where
 sz:=sz
 E:=[]
 K:=fun _ x cs=>cs=x∧cs.length=sz∧∀ u∈cs,u.oneCell'=true
 M:=fun _ _ _ x cs=>cs=x∧cs.length=sz∧∀ u∈cs,u.oneCell'=true
 ow:=fun h=>h.2.1
 nP:=fun h=>h.2.2
 kR:=fun _ h=>h
 jG:=fun h=>h
 gB:=fun _ h=>h
 jH:=fun h=>h
 kJ:=fun _ h=>h
 kS:=fun _ h=>h
def S {α:Type} (d:Kd α) (e:Nat) (w:World) (base:Nat) (ok:Nat→Prop) (v:Value) (xs:List α):Prop:=∃ f,(tag f d).R e w base ok v xs.zipIdx
section
variable {α β:Type} {d:Kd α} {d':Kd β} {e e':Nat} {w w1 W:World} {base b:Nat} {ok ok' okv oku:Nat→Prop} {u v:Value} {xs:List α} {ys:List β}
theorem Ad {xs:List α} {j:Nat} {p:α} (h:xs[j]? =some p):xs.zipIdx[j]? =some (p,j):=by rw [List.getElem?_zipIdx,h,Nat.zero_add];rfl
theorem UB (h:S d e w base ok v xs):d.R e w base ok v xs:=by
 obtain ⟨f,h0,inner,ho,hr⟩:=h
 rw [List.length_zipIdx] at ho
 exact ⟨h0,inner,ho,by have:=hr.1;rw [List.length_zipIdx] at this;exact this,fun j p hj=>d.gB (fun _ hk=>hk.1) (hr.2 j (p,j) (Ad hj))⟩
theorem aa8 {ad:Addr} {n cap:Nat} (h:d.R e w base ok (.slice (some ad) n cap) xs):∃ g,ad=⟨g,0,none⟩:=by
 obtain ⟨_,inner,ho,hr⟩:=h
 rcases ho.2 with ⟨hv,_⟩|⟨g,cap',cur,hv,_⟩
 ·cases hv
 ·injection hv with ha _ _
  injection ha with ha
  exact ⟨g,ha⟩
theorem yD (hE:d.E= []) (h:d.R e w base ok v xs):d.R e w base (fun k=>some k=v.ownBlock) v xs:=by
 obtain ⟨h0,inner,ho,hr⟩:=h
 refine ⟨fun k hk=>hk.symm,inner,ho,hr.vH (fun p c hp=>d.gB (fun k hk=>?_) (d.jH hp))⟩
 obtain ⟨_,_,_,q,hq,_⟩:=hk
 rw [hE] at hq
 cases hq
theorem Z6 (d:Kd α) (e:Nat) (w:World) (base:Nat) (ok:Nat→Prop):S d e w base ok (.slice none 0 0) []:=⟨fun _ =>0,Bh _ _ _ _ _⟩
theorem fB (h:S d e w base ok v xs) (hok:∀ k,ok k→ok' k):S d e w base ok' v xs:=by
 obtain ⟨f,h⟩:=h
 exact ⟨f,dH h hok⟩
theorem Gk (h:S d e w base ok v xs):S d e w base (fun k=>ok k∧base≤k∧k < w.heap.size∧∃ q,q∈e :: d.E∧∃ cells,w.heap[k]? =some (.cells cells q (0,0))) v xs:=by
 obtain ⟨f,h⟩:=h
 exact ⟨f,nC h⟩
theorem aa9 (h:S d e w base ok v xs) (hm:∀ k,ok k→w1.heap[k]? =w.heap[k]?):S d e w1 base ok v xs:=by
 obtain ⟨f,h⟩:=h
 exact ⟨f,Dh h hm⟩
theorem pQ {base':Nat} (h:S d e w base ok v xs) (hb:base'≤base):S d e w base' ok v xs:=by
 obtain ⟨f,h⟩:=h
 exact ⟨f,dW h hb⟩
theorem SH (h:S d e w base ok v xs) (hm:∀ k,ok k→k < w.heap.size→w1.heap[k]? =w.heap[k]?):S d e w1 base ok v xs:=
 fB (aa9 (Gk h) (fun k hk=>hm k hk.1 hk.2.2.1)) (fun _ hk=>hk.1)
theorem dX (h:S d e w base ok v xs) (hb:Below w.heap.size w w1):S d e w1 base ok v xs:=SH h (fun k _ hk=>hb.block k hk)
theorem Nh (h:S d e w base ok v xs) (o:Obj):S d e (w.alloc o) base ok v xs:=dX h (bW (Below.refl _ _) o)
theorem SI (h:S d e w base ok v xs):S d e w.drew base ok v xs:=dX h (xS (Below.refl _ _))
theorem cB (h:S d e w base ok v xs) {p:Addr} (hok:∀ k,ok k→k≠p.block) (u:Value):S d e (w.setCell p u) base ok v xs:=SH h (fun k ho _ =>Below.heap_setCell w p u k (hok k ho))
theorem gA (h:S d e w base ok v xs) {g t:Nat} {cells:Array Value} (hb:w.heap[g]? =some (.cells cells t (0,0))) (ht:∀ q,q∈e :: d.E→q≠t):S d e w base (fun k=>ok k∧k≠g) v xs:=by
 obtain ⟨f,h⟩:=h
 exact ⟨f,dD h hb ht⟩
theorem Bl (h:S d e w base ok v xs) {g t:Nat} {cells:Array Value} (hb:w.heap[g]? =some (.cells cells t (0,0))) (ht:∀ q,q∈e :: d.E→q≠t) (j:Nat) (u:Value):S d e (w.setCell ⟨g,j,none⟩ u) base ok v xs:=
 fB (cB (p:=⟨g,j,none⟩) (gA h hb ht) (fun _ hk=>hk.2) u) (fun _ hk=>hk.1)
theorem wO (h:S d e w base ok v xs):∀ k,v.ownBlock=some k→∃ cells,w.heap[k]? =some (.cells cells e (0,0)):=UQ (UB h)
theorem qR (h:S d e w base ok v xs):∀ k,v.ownBlock=some k→k < w.heap.size:=mB (UB h)
theorem kj (h:S d e w base ok v xs):∀ k,v.ownBlock=some k→base≤k:=fV (UB h)
theorem fS (h:S d e W base ok u xs) (hbase:∀ k,v.ownBlock=some k→W.heap.size≤k) (hb:Below W.heap.size W w1):S d e w1 base (fun k=>ok k∧some k≠v.ownBlock) u xs:=by
 obtain ⟨f,h⟩:=h
 exact ⟨f,pV h hbase hb⟩
theorem fu (h:S d e w1 W.heap.size ok v xs) (hlt:∀ k,u.ownBlock=some k→k < W.heap.size):S d e w1 W.heap.size (fun k=>ok k∧some k≠u.ownBlock) v xs:=by
 obtain ⟨f,h⟩:=h
 exact ⟨f,vV h hlt⟩
theorem yE (h:S d e W base ok u xs) (hb:Below W.heap.size W w1):S d e w1 base (fun k=>ok k∧k < W.heap.size) u xs:=
 fB (dX (Gk h) hb) (fun _ hk=>⟨hk.1,hk.2.2.1⟩)
theorem UU {f:Nat→Nat} {k:Nat} (h:(tag f d).R e w base ok v (xs.zipIdx.eraseIdx k)):S d e w base ok v (xs.eraseIdx k):=by
 obtain ⟨h0,inner,ho,hr⟩:=h
 have hl:(xs.zipIdx.eraseIdx k).length=(xs.eraseIdx k).length:=by simp only [List.length_eraseIdx,List.length_zipIdx]
 rw [hl] at ho
 refine ⟨fun b=>if k < f b then f b - 1 else f b,h0,inner,by rw [List.length_zipIdx];exact ho,by rw [List.length_zipIdx,← hl];exact hr.1,fun j p hj=>?_⟩
 rw [List.getElem?_zipIdx,Nat.zero_add] at hj
 obtain ⟨x,hx,rfl⟩:=Option.map_eq_some_iff.1 hj
 rw [List.getElem?_eraseIdx] at hx
 by_cases hjk:j < k
 ·rw [if_pos hjk] at hx
  refine d.gB (fun b hb=>⟨hb.1,?_⟩) (hr.2 j (x,j) (by rw [List.getElem?_eraseIdx,if_pos hjk];exact Ad hx))
  have h2:f b=j:=hb.2
  show (if k < f b then f b - 1 else f b)=j
  rw [if_neg fA];exact h2
 ·rw [if_neg hjk] at hx
  refine d.gB (fun b hb=>⟨hb.1,?_⟩) (hr.2 j (x,j + 1) (by rw [List.getElem?_eraseIdx,if_neg hjk];exact Ad hx))
  have h2:f b=j + 1:=hb.2
  show (if k < f b then f b - 1 else f b)=j
  rw [if_pos fA];omega
theorem ad3 {f f':Nat→Nat} {zs:List (α×Nat)} (h:(tag f d).R e w base ok v zs) (hf:∀ k,ok k→k < w.heap.size→f' k=f k):(tag f' d).R e w base ok v zs:=by
 obtain ⟨h0,inner,ho,hr⟩:=nC h
 exact ⟨fun k hk=>(h0 k hk).1,inner,ho,hr.1,fun j p hj=>d.gB (fun k hk=>⟨⟨hk.1.1.1,hk.1.2⟩,(hf k hk.1.1.1 hk.1.1.2.2.1).trans hk.2⟩) (hr.2 j p hj)⟩
end
section
variable {α β:Type} {d:Kd α} {d':Kd β} {e e' g:Nat} {w w1 W:World} {base b:Nat} {ok ok' okv oku:Nat→Prop} {u v:Value} {xs:List α} {ys:List β}
theorem Lj (h:S d e w base ok v xs) {t:Nat} {cells:Array Value} (hb:w.heap[g]? =some (.cells cells t (0,0))) (ht:e≠t):some g≠v.ownBlock:=vT (UB h) hb ht
theorem aba (h:S d e w base ok v xs) (hok:∀ k,ok k→k≠g):some g≠v.ownBlock:=aa2 (UB h) hok
theorem SJ (h:S d e w base ok v xs) (hp: 0 < xs.length):∃ g cap,v= .slice (some ⟨g,0,none⟩) xs.length cap∧base≤g∧g < w.heap.size∧∃ cells,w.heap[g]? =some (.cells cells e (0,0)):=xU (UB h) hp
theorem iF (h:S d e w base ok v xs):∃ A c,v= .slice A xs.length c:=dh (UB h)
theorem fq {A:Option Addr} {n c:Nat} (h:S d e w base ok (.slice A n c) xs):n=xs.length∧n≤c∧d.C w A xs.length xs:=ck (UB h)
theorem Z7 (h:S d e w base ok v xs):∃ inner,w.ownsRow base e d.sz v xs.length inner:=EX (UB h)
theorem SK (h:S d e w base ok v xs) (a:Nat) (ha:w.heap.size≤a):S d e w base (fun k=>ok k∧k≠a) v xs:=fB (Gk h) (fun k hk=>⟨hk.1,by have:=hk.2.2.1;omega⟩)
theorem jK {N:Nat} (h:S d e w1 base (fun k=>ok k∧k < N) u xs) (hbase:∀ k,v.ownBlock=some k→N≤k):S d e w1 base (fun k=>(ok k∧some k≠v.ownBlock)∧k < N) u xs:=
 fB h (fun k hk=>⟨⟨hk.1,fun e=>Nat.lt_irrefl _ (Nat.lt_of_lt_of_le hk.2 (hbase k e.symm))⟩,hk.2⟩)
theorem SL (xs:List α) (p:α):(xs ++ [p]).zipIdx=xs.zipIdx ++ [(p,xs.length)]:=by rw [List.zipIdx_append];simp
end
section
open Classical in
theorem ad4 {α:Type} {d:Kd α} {e base:Nat} {okv:Nat→Prop} {w:World} {v:Value} {xs:List α} (h:S d e w base okv v xs) (m:Nat) (pN:Nat→Prop) (hap:∀ k,pN k→¬ okv k):∃ f,(∀ k,pN k→f k=m)∧(tag f d).R e w base okv v xs.zipIdx:=by
 obtain ⟨f,h⟩:=h
 exact ⟨fun k=>if pN k then m else f k,fun k hk=>if_pos hk,ad3 h (fun k hk _ =>if_neg (fun h2=>hap k h2 hk))⟩
variable {P:Program} {ops:Array Oper} {rest:List Oper} {o:Oper} {a:Act} {Q:Exit→Act→World→Prop} {Kc:Act→World→Prop} {α:Type}
theorem xx (d:Kd α) {w0 W:World} (base:Nat) (hw:Region.wanted o (yielded ops a.tmps)=true) (s x:Operand) (t e:TypeId) (z:Value) (bytes:Nat)
 (ho:o.op= .call {callee:= .builtin .append,args:=#[s,x],argTypes:=#[t,t]})
 (ht:P.underlying t=some (.slice e)) (hinfo:(P.info? e).map (fun i=>(i.zero,i.size,i.bytes))=some (some z,d.sz,bytes)) (hz:z.cells.size=d.sz) (hs0: 0 < d.sz) (hb0: 0 < bytes)
 (v:Value) (xs:List α) (p:α) (cs:List Value) (ok pN:Nat→Prop) (hs:a.eval s=v) (hx:a.eval x= .slice (some ⟨W.heap.size,0,none⟩) 1 1) (hp:d.M W base pN p cs) (Dj:∀ k,pN k→ok k∧some k≠v.ownBlock) (hfresh:∀ k,W.heap.size≤k→ok k)
 (HO:S d e W base (fun k=>ok k∧¬ pN k) v xs) (HB:Below base w0 W) (hbase:base≤W.heap.size) (hl:(xs.length + 1) * bytes≤140737488355328)
 (h:∀ v1 w1,S d e w1 base ok v1 (xs ++ [p])→Below base w0 w1→W.grownBy w1 v.ownBlock→(v1.ownBlock=v.ownBlock∨∃ b,v1.ownBlock=some b∧W.heap.size≤b)→Kc (a.put o.dst v1) w1):
 if Region.wanted o (yielded ops a.tmps)=true then Oper.wp P o a (W.alloc (.cells cs.toArray e)) Kc Q else Kc (a.put o.dst undef) (W.alloc (.cells cs.toArray e)):=by
 obtain ⟨f,hf,hR⟩:=ad4 HO xs.length pN (fun _ hk h2=>h2.2 hk)
 refine EE (tag f d) base hw s x t e z bytes ho ht hinfo hz hs0 hb0 v xs.zipIdx (p,xs.length) cs ok pN hs hx (d.gB (fun k hk=>⟨hk,hf k hk⟩) hp) Dj hfresh (dH hR (fun _ hk=>hk.1)) HB hbase (by rw [List.length_zipIdx];exact hl) ?_
 intro v1 w1 hr
 rw [← SL] at hr
 exact h v1 w1 ⟨f,hr⟩
end
def gap {α:Type} (f:Nat→Nat) (d:Kd α) (i:Nat) (c:List Value):Kd (α×Nat) where
 sz:=d.sz
 E:=d.E
 K:=fun w x cs=>(x.2=i→cs=c∧cs.length=d.sz∧∀ u∈cs,u.oneCell'=true)∧(x.2≠i→d.K w x.1 cs)
 M:=fun w base ok x cs=>(x.2=i→cs=c∧cs.length=d.sz∧∀ u∈cs,u.oneCell'=true)∧(x.2≠i→d.M w base (fun k=>ok k∧f k=x.2) x.1 cs)
 ow:=fun {w x cs} h=>by
  by_cases hx:x.2=i
  ·exact (h.1 hx).2.1
  ·exact d.ow (h.2 hx)
 nP:=fun {w x cs} h=>by
  by_cases hx:x.2=i
  ·exact (h.1 hx).2.2
  ·exact d.nP (h.2 hx)
 kR:=fun hb h=>⟨h.1,fun hx=>d.kR hb (h.2 hx)⟩
 jG:=fun h=>⟨h.1,fun hx=>d.jG (h.2 hx)⟩
 gB:=fun hok h=>⟨h.1,fun hx=>d.gB (fun k hk=>⟨hok k hk.1,hk.2⟩) (h.2 hx)⟩
 jH:=fun h=>⟨h.1,fun hx=>d.gB (fun _ hk=>⟨⟨hk.1.1,hk.2⟩,hk.1.2⟩) (d.jH (h.2 hx))⟩
 kJ:=fun hm h=>⟨h.1,fun hx=>d.kJ (fun k hk=>hm k hk.1) (h.2 hx)⟩
 kS:=fun hb h=>⟨h.1,fun hx=>d.kS hb (h.2 hx)⟩
def H {α:Type} (d:Kd α) (e:Nat) (w:World) (base:Nat) (ok:Nat→Prop) (v:Value) (xs:List α) (i:Int) (og:Nat→Prop) (c:List Value):Prop:=
 (∀ k,og k→ok k)∧∃ f,(gap f d i.toNat c).R e w base (fun k=>ok k∧¬ og k) v xs.zipIdx
section
variable {α β:Type} {d:Kd α} {e e' g n cap:Nat} {w w1 W:World} {base:Nat} {ok ok' og pN:Nat→Prop} {u v:Value} {xs:List α} {i:Int} {c:List Value}
theorem abb (h:S d e W base ok (.slice (some ⟨g,0,none⟩) n cap) xs) (z:α) (i:Int) (h0: 0≤i) (h1:i < n):
 ∃ (og:Nat→Prop) (c:List Value),c.length=d.sz∧d.M W base og (xs.getD i.toNat z) c∧(∀ j u,c[j]? =some u→W.cell? ⟨g,i.toNat * d.sz + j,none⟩=some u)∧(∀ k,og k→ok k∧k≠g)∧H d e W base ok (.slice (some ⟨g,0,none⟩) n cap) xs i og c:=by
 obtain ⟨f,hR⟩:=h
 have hn:=(ck hR).1
 rw [List.length_zipIdx] at hn
 have hgo:some g=(Value.slice (some ⟨g,0,none⟩) n cap).ownBlock:=by simp [Value.ownBlock]
 obtain ⟨hok0,inner,ho,hr⟩:=hR
 have hil:i.toNat < xs.length:=by omega
 have hlen:inner.length=xs.length * d.sz:=by have:=hr.1;rw [List.length_zipIdx] at this;exact this
 have hseg:i.toNat * d.sz + d.sz≤inner.length:=by rw [hlen,← Nat.succ_mul];exact Nat.mul_le_mul_right _ hil
 have hM:=hr.2 i.toNat _ (Ad (List.getElem?_eq_getElem hil))
 have hkg:∀ k,some k≠(Value.slice (some ⟨g,0,none⟩) n cap).ownBlock→k≠g:=fun k hk he=>hk (by rw [he];exact hgo)
 refine ⟨fun k=>(ok k∧k≠g)∧f k=i.toNat,(inner.drop (i.toNat * d.sz)).take d.sz,by rw [List.length_take,List.length_drop];omega,?_,fun j u hu=>?_,fun k hk=>hk.1,fun k hk=>hk.1.1,f,fun k hk=>⟨hok0 k hk,fun h2=>h2.1.2 ?_⟩,inner,ho,hr.1,fun m p hm=>?_⟩
 ·rw [List.getD_eq_getElem?_getD,List.getElem?_eq_getElem hil]
  exact d.gB (fun k hk=>⟨⟨hk.1.1,hkg k hk.1.2⟩,hk.2⟩) hM
 ·rw [List.getElem?_take] at hu
  split at hu
  ·rw [List.getElem?_drop] at hu
   have:=ho.cells (g:=g) hgo.symm _ u hu
   rwa [add_plain] at this
  ·cases hu
 ·rw [← hgo] at hk;injection hk with hk;exact hk.symm
 ·have hold:=hr.2 m p hm
  have hp2:p.2=m:=by
   rw [List.getElem?_zipIdx,Nat.zero_add] at hm
   obtain ⟨q,_,rfl⟩:=Option.map_eq_some_iff.1 hm
   rfl
  refine ⟨fun hx=>?_,fun hx=>d.gB (fun k hk=>⟨⟨⟨hk.1.1,fun h2=>hx ?_⟩,hk.1.2⟩,hk.2⟩) hold⟩
  ·have Z3:m=i.toNat:=by omega
   subst Z3
   exact ⟨rfl,d.ow (d.jG hM),d.nP (d.jG hM)⟩
  ·rw [← hk.2];exact h2.2
open Classical in
theorem abc (h:H d e w base ok v xs i og c) {x':α} (hM:d.M w base pN x' c) (hok:∀ k,pN k→og k):S d e w base ok v (xs.set i.toNat x'):=by
 obtain ⟨ho,f,h0,inner,hown,hr⟩:=h
 refine ⟨fun k=>if og k then i.toNat else f k,fun k hk=>(h0 k hk).1,inner,by rw [List.length_zipIdx,List.length_set];rw [List.length_zipIdx] at hown;exact hown,by have:=hr.1;rw [List.length_zipIdx] at this;rw [List.length_zipIdx,List.length_set];exact this,fun m p hm=>?_⟩
 rw [List.getElem?_zipIdx,Nat.zero_add] at hm
 obtain ⟨q,hq,rfl⟩:=Option.map_eq_some_iff.1 hm
 have hml:m < xs.length:=by
  have:=(List.getElem?_eq_some_iff.1 hq).1
  rwa [List.length_set] at this
 by_cases Z3:m=i.toNat
 ·subst Z3
  rw [List.getElem?_set_self hml] at hq
  injection hq with hq
  subst hq
  have hc:=((hr.2 i.toNat _ (Ad (List.getElem?_eq_getElem hml))).1 rfl).1
  show d.M w base _ x' ((inner.drop (i.toNat * d.sz)).take d.sz)
  rw [show (inner.drop (i.toNat * d.sz)).take d.sz=c from hc]
  exact d.gB (fun k hk=>⟨⟨ho k (hok k hk),fun he=>(h0 k he.symm).2 (hok k hk)⟩,if_pos (hok k hk)⟩) hM
 ·rw [List.getElem?_set_ne (Ne.symm Z3)] at hq
  exact d.gB (fun k hk=>⟨⟨hk.1.1.1,hk.1.2⟩,(if_neg hk.1.1.2).trans hk.2⟩) ((hr.2 m (q,m) (Ad hq)).2 Z3)
theorem abd (h:H d e w base ok v xs i og c) (hm:∀ k,ok k→¬ og k→k < w.heap.size→w1.heap[k]? =w.heap[k]?):H d e w1 base ok v xs i og c:=by
 obtain ⟨ho,f,h⟩:=h
 exact ⟨ho,f,Ld h (fun k hk hlt=>hm k hk.1 hk.2 hlt)⟩
theorem UW (h:H d e w base ok v xs i og c) {row:Option Nat} (hg:w.grownBy w1 row) (hrow:∀ k,row=some k→og k):H d e w1 base ok v xs i og c:=
 abd h (fun k _ hn hlt=>hg.block k hlt (fun he=>hn (hrow k he.symm)))
theorem JR {ad:Addr} (h:S d e W base ok (.slice (some ad) n cap) xs) (z:α) (i:Int) (h0: 0≤i) (h1:i < n):
 ∃ (og:Nat→Prop) (c:List Value),c.length=d.sz∧d.M W base og (xs.getD i.toNat z) c∧(∀ j u,c[j]? =some u→W.cell? (ad.add (i.toNat * d.sz + j))=some u)∧(∀ k,og k→ok k∧some k≠(Value.slice (some ad) n cap).ownBlock)∧
   ∀ {w1:World} {row:Option Nat} {x':α},W.grownBy w1 row→(∀ k,row=some k→og k)→d.M w1 base og x' c→S d e w1 base ok (.slice (some ad) n cap) (xs.set i.toNat x'):=by
 obtain ⟨g,rfl⟩:=aa8 (UB h)
 obtain ⟨og,c,hcl,hM,hcc,ad5,hH⟩:=abb h z i h0 h1
 refine ⟨og,c,hcl,hM,fun j u hu=>?_,fun k hk=>⟨(ad5 k hk).1,fun he=>(ad5 k hk).2 ?_⟩,fun hg hrow hM1=>abc (UW hH hg hrow) hM1 (fun _ hk=>hk)⟩
 ·rw [SC,Nat.zero_add]
  exact hcc j u hu
 ·simpa [Value.ownBlock] using he
end
section
variable {P:Program} {ops:Array Oper} {rest:List Oper} {o:Oper} {a:Act} {Q:Exit→Act→World→Prop} {α:Type}
theorem EI {Kc:Act→World→Prop} (d:Kd α) {w0 W:World} (base:Nat) (hw:Region.wanted o (yielded ops a.tmps)=true) (s x:Operand) (t e:TypeId) (ho:o.op= .call {callee:= .builtin .append,args:=#[s,x],argTypes:=#[t,t]})
 (ht:P.underlying t=some (.slice e)) (hinfo:(P.info? e).map (·.size)=some d.sz) {g n c k m c2:Nat} {A:Option Addr} {xs:List α} {ok:Nat→Prop}
 (hs:a.eval s= .slice (some ⟨g,0,none⟩) k c) (hx:a.eval x= .slice A m c2) (hA:A=if c=k + 1 then some ⟨g,0,none⟩ else (some (⟨g,0,none⟩:Addr)).map (·.add ((k + 1) * d.sz))) (hm:m=n - (k + 1))
 (HO:S d e W base ok (.slice (some ⟨g,0,none⟩) n c) xs) (hk:k < n) (HB:Below base w0 W) (hbase:base≤W.heap.size)
 (h:∀ w1,S d e w1 base ok (.slice (some ⟨g,0,none⟩) (n - 1) c) (xs.eraseIdx k)→Below base w0 w1→W.grownBy w1 (some g)→Kc (a.put o.dst (.slice (some ⟨g,0,none⟩) (n - 1) c)) w1):
 if Region.wanted o (yielded ops a.tmps)=true then Oper.wp P o a W Kc Q else Kc (a.put o.dst undef) W:=by
 obtain ⟨f,HR⟩:=HO
 exact EF (tag f d) base hw s x t e ho ht hinfo hs hx hA hm HR hk HB hbase (fun w1 hr=>h w1 (UU hr))
end
end Kd
end Go.Proofs.ak.bQ
