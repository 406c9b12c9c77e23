import Derived.Test.YtokpnfljjjjikaaGreatDoorWWords
import Derived.Test.YtokpnfljjjjikaaGreatDoorWLast
namespace Go.Proofs.aj.bO
open Go.RowKit
namespace Kd
def tag {α:Type} (f:Nat→Nat) (d:Kd α):Kd (α×Nat) where
 sz:=d.sz
 E:=d.E
 K:=fun w x cs=>d.K w x.1 cs
 M:=fun w base ok x cs=>d.M w base (fun k=>ok k∧f k=x.2) x.1 cs
 vS:=fun h=>d.vS h
 wF:=fun h=>d.wF h
 rP:=fun hb h=>d.rP hb h
 nK:=fun h=>d.nK h
 oL:=fun hok h=>d.oL (fun k hk=>⟨hok k hk.1,hk.2⟩) h
 oH:=fun h=>d.oL (fun _ hk=>⟨⟨hk.1.1,hk.2⟩,hk.1.2⟩) (d.oH h)
 sM:=fun hm h=>d.sM (fun k hk=>hm k hk.1) h
 rQ:=fun hb h=>d.rQ hb h
def raw (sz:Nat):Kd (List Value) where
 sz:=sz
 E:=[]
 K:=fun _ x cs=>cs=x∧cs.length=sz∧∀ u∈cs,u.oneCell'=true
 M:=fun _ _ _ x cs=>cs=x∧cs.length=sz∧∀ u∈cs,u.oneCell'=true
 vS:=fun h=>h.2.1
 wF:=fun h=>h.2.2
 rP:=fun _ h=>h
 nK:=fun h=>h
 oL:=fun _ h=>h
 oH:=fun h=>h
 sM:=fun _ h=>h
 rQ:=fun _ h=>h
def S {α:Type} (d:Kd α) (e:Nat) (w:World) (base:Nat) (ok:Nat→Prop) (v:Value) (xs:List α):Prop:=∃ f,(tag f d).R e w base ok v xs.zipIdx
section
variable {α β:Type} {d:Kd α} {d':Kd β} {e e':Nat} {w w1 W:World} {base b:Nat} {ok ok' okv oku:Nat→Prop} {u v:Value} {xs:List α} {ys:List β}
theorem afq (d:Kd α) (e:Nat) (w:World) (base:Nat) (ok:Nat→Prop):S d e w base ok (.slice none 0 0) []:=⟨fun _ =>0,vQ _ _ _ _ _⟩
end
section
variable {α β:Type} {d:Kd α} {d':Kd β} {e e' g:Nat} {w w1 W:World} {base b:Nat} {ok ok' okv oku:Nat→Prop} {u v:Value} {xs:List α} {ys:List β}
end
section
variable {P:Program} {ops:Array Oper} {rest:List Oper} {o:Oper} {a:Act} {Q:Exit→Act→World→Prop} {Kc:Act→World→Prop} {α:Type}
end
def gap {α:Type} (f:Nat→Nat) (d:Kd α) (i:Nat) (c:List Value):Kd (α×Nat) where
 sz:=d.sz
 E:=d.E
 K:=fun w x cs=>(x.2=i→cs=c∧cs.length=d.sz∧∀ u∈cs,u.oneCell'=true)∧(x.2≠i→d.K w x.1 cs)
 M:=fun w base ok x cs=>(x.2=i→cs=c∧cs.length=d.sz∧∀ u∈cs,u.oneCell'=true)∧(x.2≠i→d.M w base (fun k=>ok k∧f k=x.2) x.1 cs)
 vS:=fun {w x cs} h=>by
  by_cases hx:x.2=i
  ·exact (h.1 hx).2.1
  ·exact d.vS (h.2 hx)
 wF:=fun {w x cs} h=>by
  by_cases hx:x.2=i
  ·exact (h.1 hx).2.2
  ·exact d.wF (h.2 hx)
 rP:=fun hb h=>⟨h.1,fun hx=>d.rP hb (h.2 hx)⟩
 nK:=fun h=>⟨h.1,fun hx=>d.nK (h.2 hx)⟩
 oL:=fun hok h=>⟨h.1,fun hx=>d.oL (fun k hk=>⟨hok k hk.1,hk.2⟩) (h.2 hx)⟩
 oH:=fun h=>⟨h.1,fun hx=>d.oL (fun _ hk=>⟨⟨hk.1.1,hk.2⟩,hk.1.2⟩) (d.oH (h.2 hx))⟩
 sM:=fun hm h=>⟨h.1,fun hx=>d.sM (fun k hk=>hm k hk.1) (h.2 hx)⟩
 rQ:=fun hb h=>⟨h.1,fun hx=>d.rQ hb (h.2 hx)⟩
def H {α:Type} (d:Kd α) (e:Nat) (w:World) (base:Nat) (ok:Nat→Prop) (v:Value) (xs:List α) (i:Int) (oki:Nat→Prop) (c:List Value):Prop:=
 (∀ k,oki k→ok k)∧∃ f,(gap f d i.toNat c).R e w base (fun k=>ok k∧¬ oki k) v xs.zipIdx
section
variable {α β:Type} {d:Kd α} {e e' g n cap:Nat} {w w1 W:World} {base:Nat} {ok ok' oki Lc:Nat→Prop} {u v:Value} {xs:List α} {i:Int} {c:List Value}
end
section
variable {P:Program} {ops:Array Oper} {rest:List Oper} {o:Oper} {a:Act} {Q:Exit→Act→World→Prop} {α:Type}
end
end Kd
end Go.Proofs.aj.bO
