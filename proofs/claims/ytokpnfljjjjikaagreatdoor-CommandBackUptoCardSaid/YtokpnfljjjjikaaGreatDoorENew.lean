import Derived.Test.YtokpnfljjjjikaaGreatDoorZo
import Derived.Test.YtokpnfljjjjikaaGreatDoorERep2
import Derived.OwnWalk
namespace Go.Proofs.YtokpnfljjjjikaaGreatDoor
open Go.RowKit Go.Proofs.aj.bW Go.Proofs.aj.dz
set_option linter.unusedVariables false
set_option linter.unusedSimpArgs false
structure anM (w w':World) (p q:Nat):Prop where
 pn:w.heap.size≤p
 pq:p≠q
 pl:p < w'.heap.size
 ql:q < w'.heap.size
 k0:w'.cell? ⟨p,0,none⟩=some (.int .u32 0)
 k1:w'.cell? ⟨p,1,none⟩=some (.int .i32 0)
 k3:w'.cell? ⟨p,3,none⟩=some .nilIface
 k4:∃ c,w'.cell? ⟨p,4,none⟩=some (.slice (some ⟨q,0,none⟩) 4 c)
 fz:∀ j,w'.frozen? ⟨p,j,none⟩=false
 s0:w'.cell? ⟨q,0,none⟩=some (.string ⟨#[34]⟩)
 s1:w'.cell? ⟨q,1,none⟩=some (.string ⟨#[92,34]⟩)
 s2:w'.cell? ⟨q,2,none⟩=some (.string ⟨#[92]⟩)
 s3:w'.cell? ⟨q,3,none⟩=some (.string ⟨#[92,92]⟩)
 vS:Below w.heap.size w w'
set_option maxRecDepth 100000 in
set_option maxHeartbeats 4000000 in
theorem yL (b c:Nat) (w:World) (c0:w.cell? ⟨b,0,none⟩=some (.string ⟨#[34]⟩)) (c1:w.cell? ⟨b,1,none⟩=some (.string ⟨#[92,34]⟩)) (c2:w.cell? ⟨b,2,none⟩=some (.string ⟨#[92]⟩)) (c3:w.cell? ⟨b,3,none⟩=some (.string ⟨#[92,92]⟩)):
 Calls Tryz.prog 69 #[.slice (some ⟨b,0,none⟩) 4 c] w fun e w'=>∃ p q,e= .returned (.pointer (some ⟨p,0,none⟩))∧anM w w' p q:=by
 go_enter Tryz.func69,Tryz.ntmps69
 go_wp2
 go_ret
 generalize (Question.appendCap 4 0 9).cut _=cc
 refine ⟨w.heap.size + 1,w.heap.size,rfl,?_⟩
 refine ⟨aq,aq,bn,sQ,bn,bn,bn,⟨cc,bn⟩,fun j=>by simp,?_,?_,?_,?_,?_⟩
 all_goals first|(exact (((Below.refl w.heap.size w).alloc (Nat.le_refl _) _).alloc bn _).drew)|(rw [World.cell?_drew,World.cell?_alloc_past _ _ _ bn,World.cell?_alloc_at _ _ _ _ bn,Array.getElem?_append_left bn];rfl)
end Go.Proofs.YtokpnfljjjjikaaGreatDoor
