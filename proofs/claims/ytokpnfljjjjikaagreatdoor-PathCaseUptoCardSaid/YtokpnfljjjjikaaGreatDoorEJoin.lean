import Derived.Test.YtokpnfljjjjikaaGreatDoorEStr
namespace Go.Proofs.YtokpnfljjjjikaaGreatDoor
open Go.RowKit Go.Proofs.aj.bw Go.Proofs.aj.cj
def joinL (xs:List ByteArray) (sep:ByteArray):ByteArray:=⟨(Lib.join (xs.map (·.data.toList)) sep.data.toList).toArray⟩
def strings_Join.f (xs:List ByteArray) (sep:ByteArray):Option ByteArray:=
 if 0 < xs.length∧xs.length≤140737488355328∧(joinL xs sep).size≤140737488355328 then some (joinL xs sep) else none
theorem strings_Join.calls (A0:Option Addr) (c0:Nat) (l0:List ByteArray) (a1:ByteArray) (r:ByteArray) (w:World) (tX:Kd.C Kd.string w A0 l0.length l0) (hc0:l0.length≤c0) (h:strings_Join.f l0 a1=some r):
 Calls Tryz.prog 66 #[.slice A0 l0.length c0,.string a1] w fun e w'=>e= .returned (.string r)∧Below w.heap.size w w':=by
 unfold strings_Join.f at h
 by_cases hs: 0 < l0.length∧l0.length≤140737488355328∧(joinL l0 a1).size≤140737488355328
 case neg=>rw [if_neg hs] at h;cases h
 rw [if_pos hs] at h
 obtain rfl:=Option.some.inj h
 have hcell:∀ (j:Nat) x,l0[j]? =some x→∃ ad,A0=some ad∧w.cell? (ad.add j)=some (.string x):=by
  intro j x hj
  have hlt:j < l0.length:=(List.getElem?_eq_some_iff.1 hj).1
  obtain ⟨ad,e1,hc⟩:=Kd.gB tX (j:Int) ak ak
  rw [show jv ByteArray.empty l0 (j:Int)=x from by simp [jv,hj]] at hc
  rw [show ((j:Int)).toNat=j from by omega] at hc
  exact ⟨ad,e1,hc⟩
 obtain ⟨ad,rfl,GK⟩:=hcell 0 (l0[0]'hs.1) (List.getElem?_eq_getElem hs.1)
 obtain ⟨b,o,sp⟩:=ad
 have hsp:sp=none:=by
  cases sp with
  |none=>rfl
  |some s=>
   unfold World.cell? at GK
   simp [Addr.add] at GK
   split at GK<;>simp at GK
 subst hsp
 have hb:b < w.heap.size:=by
  rcases Nat.lt_or_ge b w.heap.size with h1|h1
  ·exact h1
  ·unfold World.cell? at GK
   simp [Addr.add,Array.getElem?_eq_none h1] at GK
 refine Tryz.strings_Join b o c0 l0 a1 w (fun j x hj=>?_) hb hs.2.1 hc0 hs.2.2
 obtain ⟨ad,e,hc⟩:=hcell j x hj
 cases e
 rw [Addr.add_lit] at hc
 exact hc
end Go.Proofs.YtokpnfljjjjikaaGreatDoor
