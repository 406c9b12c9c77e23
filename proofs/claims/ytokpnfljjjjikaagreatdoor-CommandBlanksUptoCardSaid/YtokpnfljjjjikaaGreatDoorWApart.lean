import Derived.Test.YtokpnfljjjjikaaGreatDoorWWords
import Derived.Test.YtokpnfljjjjikaaGreatDoorWLast
namespace Go.Proofs.aj.bQ
open Go.RowKit
namespace Kd
def tag {α:Type} (f:Nat→Nat) (d:Kd α):Kd (α×Nat) where
 sz:=d.sz
 E:=d.E
 K:=fun w x cs=>d.K w x.1 cs
 M:=fun w base ok x cs=>d.M w base (fun k=>ok k∧f k=x.2) x.1 cs
 ru:=fun h=>d.ru h
 rP:=fun h=>d.rP h
 mP:=fun hb h=>d.mP hb h
 lF:=fun h=>d.lF h
 kL:=fun hok h=>d.kL (fun k hk=>⟨hok k hk.1,hk.2⟩) h
 kR:=fun h=>d.kL (fun _ hk=>⟨⟨hk.1.1,hk.2⟩,hk.1.2⟩) (d.kR h)
 nN:=fun hm h=>d.nN (fun k hk=>hm k hk.1) h
 mQ:=fun hb h=>d.mQ hb h
def raw (sz:Nat):Kd (List Value) where
 sz:=sz
 E:=[]
 K:=fun _ x cs=>cs=x∧cs.length=sz∧∀ u∈cs,u.oneCell'=true
 M:=fun _ _ _ x cs=>cs=x∧cs.length=sz∧∀ u∈cs,u.oneCell'=true
 ru:=fun h=>h.2.1
 rP:=fun h=>h.2.2
 mP:=fun _ h=>h
 lF:=fun h=>h
 kL:=fun _ h=>h
 kR:=fun h=>h
 nN:=fun _ h=>h
 mQ:=fun _ h=>h
def S {α:Type} (d:Kd α) (e:Nat) (w:World) (base:Nat) (ok:Nat→Prop) (v:Value) (xs:List α):Prop:=∃ f,(tag f d).R e w base ok v xs.zipIdx
section
variable {α β:Type} {d:Kd α} {d':Kd β} {e e':Nat} {w w1 W:World} {base b:Nat} {ok ok' okv oku:Nat→Prop} {u v:Value} {xs:List α} {ys:List β}
theorem acF (d:Kd α) (e:Nat) (w:World) (base:Nat) (ok:Nat→Prop):S d e w base ok (.slice none 0 0) []:=⟨fun _ =>0,eX _ _ _ _ _⟩
end
section
variable {α β:Type} {d:Kd α} {d':Kd β} {e e' g:Nat} {w w1 W:World} {base b:Nat} {ok ok' okv oku:Nat→Prop} {u v:Value} {xs:List α} {ys:List β}
end
section
variable {P:Program} {ops:Array Oper} {rest:List Oper} {o:Oper} {a:Act} {Q:Exit→Act→World→Prop} {Kc:Act→World→Prop} {α:Type}
end
def gap {α:Type} (f:Nat→Nat) (d:Kd α) (i:Nat) (c:List Value):Kd (α×Nat) where
 sz:=d.sz
 E:=d.E
 K:=fun w x cs=>(x.2=i→cs=c∧cs.length=d.sz∧∀ u∈cs,u.oneCell'=true)∧(x.2≠i→d.K w x.1 cs)
 M:=fun w base ok x cs=>(x.2=i→cs=c∧cs.length=d.sz∧∀ u∈cs,u.oneCell'=true)∧(x.2≠i→d.M w base (fun k=>ok k∧f k=x.2) x.1 cs)
 ru:=fun {w x cs} h=>by
  by_cases hx:x.2=i
  ·exact (h.1 hx).2.1
  ·exact d.ru (h.2 hx)
 rP:=fun {w x cs} h=>by
  by_cases hx:x.2=i
  ·exact (h.1 hx).2.2
  ·exact d.rP (h.2 hx)
 mP:=fun hb h=>⟨h.1,fun hx=>d.mP hb (h.2 hx)⟩
 lF:=fun h=>⟨h.1,fun hx=>d.lF (h.2 hx)⟩
 kL:=fun hok h=>⟨h.1,fun hx=>d.kL (fun k hk=>⟨hok k hk.1,hk.2⟩) (h.2 hx)⟩
 kR:=fun h=>⟨h.1,fun hx=>d.kL (fun _ hk=>⟨⟨hk.1.1,hk.2⟩,hk.1.2⟩) (d.kR (h.2 hx))⟩
 nN:=fun hm h=>⟨h.1,fun hx=>d.nN (fun k hk=>hm k hk.1) (h.2 hx)⟩
 mQ:=fun hb h=>⟨h.1,fun hx=>d.mQ hb (h.2 hx)⟩
def H {α:Type} (d:Kd α) (e:Nat) (w:World) (base:Nat) (ok:Nat→Prop) (v:Value) (xs:List α) (i:Int) (oki:Nat→Prop) (c:List Value):Prop:=
 (∀ k,oki k→ok k)∧∃ f,(gap f d i.toNat c).R e w base (fun k=>ok k∧¬ oki k) v xs.zipIdx
section
variable {α β:Type} {d:Kd α} {e e' g n cap:Nat} {w w1 W:World} {base:Nat} {ok ok' oki N1:Nat→Prop} {u v:Value} {xs:List α} {i:Int} {c:List Value}
end
section
variable {P:Program} {ops:Array Oper} {rest:List Oper} {o:Oper} {a:Act} {Q:Exit→Act→World→Prop} {α:Type}
end
end Kd
end Go.Proofs.aj.bQ
