import Derived.Test.YtokpnfljjjjikaaGreatDoorWWords
import Derived.Test.YtokpnfljjjjikaaGreatDoorWLast
namespace Go.Proofs.aj.bw
open Go.RowKit
namespace Kd
def tag {α:Type} (f:Nat→Nat) (d:Kd α):Kd (α×Nat) where
 sz:=d.sz
 E:=d.E
 K:=fun w x cs=>d.K w x.1 cs
 M:=fun w base ok x cs=>d.M w base (fun k=>ok k∧f k=x.2) x.1 cs
 o8:=fun h=>d.o8 h
 qu:=fun h=>d.qu h
 l7:=fun hb h=>d.l7 hb h
 jS:=fun h=>d.jS h
 jT:=fun hok h=>d.jT (fun k hk=>⟨hok k hk.1,hk.2⟩) h
 jO:=fun h=>d.jT (fun _ hk=>⟨⟨hk.1.1,hk.2⟩,hk.1.2⟩) (d.jO h)
 mV:=fun hm h=>d.mV (fun k hk=>hm k hk.1) h
 l8:=fun hb h=>d.l8 hb h
def raw (sz:Nat):Kd (List Value) where
 sz:=sz
 E:=[]
 K:=fun _ x cs=>cs=x∧cs.length=sz∧∀ u∈cs,u.oneCell'=true
 M:=fun _ _ _ x cs=>cs=x∧cs.length=sz∧∀ u∈cs,u.oneCell'=true
 o8:=fun h=>h.2.1
 qu:=fun h=>h.2.2
 l7:=fun _ h=>h
 jS:=fun h=>h
 jT:=fun _ h=>h
 jO:=fun h=>h
 mV:=fun _ h=>h
 l8:=fun _ h=>h
def S {α:Type} (d:Kd α) (e:Nat) (w:World) (base:Nat) (ok:Nat→Prop) (v:Value) (xs:List α):Prop:=∃ f,(tag f d).R e w base ok v xs.zipIdx
section
variable {α β:Type} {d:Kd α} {d':Kd β} {e e':Nat} {w w1 W:World} {base b:Nat} {ok ok' okv oku:Nat→Prop} {u v:Value} {xs:List α} {ys:List β}
theorem PU (d:Kd α) (e:Nat) (w:World) (base:Nat) (ok:Nat→Prop):S d e w base ok (.slice none 0 0) []:=⟨fun _ =>0,oP _ _ _ _ _⟩
end
section
variable {α β:Type} {d:Kd α} {d':Kd β} {e e' g:Nat} {w w1 W:World} {base b:Nat} {ok ok' okv oku:Nat→Prop} {u v:Value} {xs:List α} {ys:List β}
end
section
variable {P:Program} {ops:Array Oper} {rest:List Oper} {o:Oper} {a:Act} {Q:Exit→Act→World→Prop} {Kc:Act→World→Prop} {α:Type}
end
def gap {α:Type} (f:Nat→Nat) (d:Kd α) (i:Nat) (c:List Value):Kd (α×Nat) where
 sz:=d.sz
 E:=d.E
 K:=fun w x cs=>(x.2=i→cs=c∧cs.length=d.sz∧∀ u∈cs,u.oneCell'=true)∧(x.2≠i→d.K w x.1 cs)
 M:=fun w base ok x cs=>(x.2=i→cs=c∧cs.length=d.sz∧∀ u∈cs,u.oneCell'=true)∧(x.2≠i→d.M w base (fun k=>ok k∧f k=x.2) x.1 cs)
 o8:=fun {w x cs} h=>by
  by_cases hx:x.2=i
  ·exact (h.1 hx).2.1
  ·exact d.o8 (h.2 hx)
 qu:=fun {w x cs} h=>by
  by_cases hx:x.2=i
  ·exact (h.1 hx).2.2
  ·exact d.qu (h.2 hx)
 l7:=fun hb h=>⟨h.1,fun hx=>d.l7 hb (h.2 hx)⟩
 jS:=fun h=>⟨h.1,fun hx=>d.jS (h.2 hx)⟩
 jT:=fun hok h=>⟨h.1,fun hx=>d.jT (fun k hk=>⟨hok k hk.1,hk.2⟩) (h.2 hx)⟩
 jO:=fun h=>⟨h.1,fun hx=>d.jT (fun _ hk=>⟨⟨hk.1.1,hk.2⟩,hk.1.2⟩) (d.jO (h.2 hx))⟩
 mV:=fun hm h=>⟨h.1,fun hx=>d.mV (fun k hk=>hm k hk.1) (h.2 hx)⟩
 l8:=fun hb h=>⟨h.1,fun hx=>d.l8 hb (h.2 hx)⟩
def H {α:Type} (d:Kd α) (e:Nat) (w:World) (base:Nat) (ok:Nat→Prop) (v:Value) (xs:List α) (i:Int) (P8:Nat→Prop) (c:List Value):Prop:=
 (∀ k,P8 k→ok k)∧∃ f,(gap f d i.toNat c).R e w base (fun k=>ok k∧¬ P8 k) v xs.zipIdx
section
variable {α β:Type} {d:Kd α} {e e' g n cap:Nat} {w w1 W:World} {base:Nat} {ok ok' P8 CL:Nat→Prop} {u v:Value} {xs:List α} {i:Int} {c:List Value}
end
section
variable {P:Program} {ops:Array Oper} {rest:List Oper} {o:Oper} {a:Act} {Q:Exit→Act→World→Prop} {α:Type}
end
end Kd
end Go.Proofs.aj.bw
