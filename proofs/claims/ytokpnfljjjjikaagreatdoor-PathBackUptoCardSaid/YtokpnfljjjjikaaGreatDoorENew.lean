/- strings.NewReplacer of four texts: contract. -/
import Derived.Test.YtokpnfljjjjikaaGreatDoorERep2
import Derived.OwnWalk
namespace Go.Proofs.YtokpnfljjjjikaaGreatDoor
open Go.RowKit Go.Proofs.YtokpnfljjjjikaaGreatDoorW.PrintWords Go.Proofs.YtokpnfljjjjikaaGreatDoorW.PrintMore
set_option linter.unusedVariables false
set_option linter.unusedSimpArgs false

structure NewR (w w' : World) (p q : Nat) : Prop where
  pn : w.heap.size ≤ p
  pq : p ≠ q
  pl : p < w'.heap.size
  ql : q < w'.heap.size
  k0 : w'.cell? ⟨p, 0, none⟩ = some (.int .u32 0)
  k1 : w'.cell? ⟨p, 1, none⟩ = some (.int .i32 0)
  k3 : w'.cell? ⟨p, 3, none⟩ = some .nilIface
  k4 : ∃ c, w'.cell? ⟨p, 4, none⟩ = some (.slice (some ⟨q, 0, none⟩) 4 c)
  fz : ∀ j, w'.frozen? ⟨p, j, none⟩ = false
  s0 : w'.cell? ⟨q, 0, none⟩ = some (.string ⟨#[34]⟩)
  s1 : w'.cell? ⟨q, 1, none⟩ = some (.string ⟨#[92, 34]⟩)
  s2 : w'.cell? ⟨q, 2, none⟩ = some (.string ⟨#[92]⟩)
  s3 : w'.cell? ⟨q, 3, none⟩ = some (.string ⟨#[92, 92]⟩)
  bel : Below w.heap.size w w'
set_option maxRecDepth 100000 in
set_option maxHeartbeats 4000000 in
theorem new_calls (b c : Nat) (w : World) (c0 : w.cell? ⟨b, 0, none⟩ = some (.string ⟨#[34]⟩)) (c1 : w.cell? ⟨b, 1, none⟩ = some (.string ⟨#[92, 34]⟩)) (c2 : w.cell? ⟨b, 2, none⟩ = some (.string ⟨#[92]⟩)) (c3 : w.cell? ⟨b, 3, none⟩ = some (.string ⟨#[92, 92]⟩)) :
    Calls Tryz.prog 69 #[.slice (some ⟨b, 0, none⟩) 4 c] w fun e w' => ∃ p q, e = .returned (.pointer (some ⟨p, 0, none⟩)) ∧ NewR w w' p q := by
  go_enter Tryz.func69, Tryz.ntmps69
  go_wp2
  go_ret
  generalize (Question.appendCap 4 0 9).cut _ = cc
  refine ⟨w.heap.size + 1, w.heap.size, rfl, ?_⟩
  refine ⟨by omega, by omega, by simp, by simp; omega, by simp, by simp, by simp, ⟨cc, by simp⟩, fun j => by simp, ?_, ?_, ?_, ?_, ?_⟩
  all_goals first | (exact (((Below.refl w.heap.size w).alloc (Nat.le_refl _) _).alloc (by simp) _).drew) | (rw [World.cell?_drew, World.cell?_alloc_past _ _ _ (by simp), World.cell?_alloc_at _ _ _ _ (by simp), Array.getElem?_append_left (by simp)]; rfl)
end Go.Proofs.YtokpnfljjjjikaaGreatDoor
