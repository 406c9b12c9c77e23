import Derived.Test.YtbjjaaodfbjkfaaGreatDoorWWords
namespace Go.Proofs.YtbjjaaodfbjkfaaGreatDoor.yN
open Go.Proofs.ak.bR
theorem lO {α:Type} {c:Prop} {i:Decidable c} {x:Option α} {r:α} (h:(if c then x else none)=some r):c∧x=some r:=by
 by_cases hc:c
 ·rw [if_pos hc] at h
  exact ⟨hc,h⟩
 ·rw [if_neg hc] at h
  cases h
theorem axr {α:Type} {c:Prop} {i:Decidable c} {x:Option α} {r:α} (h:(if c then none else x)=some r): ¬ c∧x=some r:=by
 by_cases hc:c
 ·rw [if_pos hc] at h
  cases h
 ·rw [if_neg hc] at h
  exact ⟨hc,h⟩
theorem bd_ {α β:Type} {o:Option α} {f:α→Option β} {r:β} (h:o.bind f=some r):∃ a,ah (o=some a)∧f a=some r:=by
 obtain ⟨a,h1,h2⟩:=Option.bind_eq_some_iff.mp h
 exact ⟨a,⟨h1⟩,h2⟩
end Go.Proofs.YtbjjaaodfbjkfaaGreatDoor.yN
