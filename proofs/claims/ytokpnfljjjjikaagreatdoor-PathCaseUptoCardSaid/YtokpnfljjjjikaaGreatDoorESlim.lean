import Derived.Test.YtokpnfljjjjikaaGreatDoorWWords
namespace Go.Proofs.YtokpnfljjjjikaaGreatDoor.sL
open Go.Proofs.aj.bw
theorem jA {α:Type} {c:Prop} {i:Decidable c} {x:Option α} {r:α} (h:(if c then x else none)=some r):c∧x=some r:=by
 by_cases hc:c
 ·rw [if_pos hc] at h
  exact ⟨hc,h⟩
 ·rw [if_neg hc] at h
  cases h
theorem bd_ {α β:Type} {o:Option α} {f:α→Option β} {r:β} (h:o.bind f=some r):∃ a,af (o=some a)∧f a=some r:=by
 obtain ⟨a,h1,h2⟩:=Option.bind_eq_some_iff.mp h
 exact ⟨a,⟨h1⟩,h2⟩
end Go.Proofs.YtokpnfljjjjikaaGreatDoor.sL
