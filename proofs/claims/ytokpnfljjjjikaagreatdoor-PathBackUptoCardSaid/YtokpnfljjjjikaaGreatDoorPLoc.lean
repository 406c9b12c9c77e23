/- What a reader tells hangs on no more than what it takes, and the byte behind. -/
import Derived.Test.YtokpnfljjjjikaaGreatDoorPSpec
namespace Go.Proofs.YtokpnfljjjjikaaGreatDoor.PathL
open Go.RowKit Go.Proofs.YtokpnfljjjjikaaGreatDoor Go.Proofs.YtokpnfljjjjikaaGreatDoor.QPath Go.Proofs.YtokpnfljjjjikaaGreatDoorW.PrintWords Go.Proofs.YtokpnfljjjjikaaGreatDoorW.PrintMore

def Agree (n : Nat) (l l2 : List UInt8) : Prop := l2.take (n + 1) = l.take (n + 1)
theorem Agree.le {n m : Nat} {l l2 : List UInt8} (h : Agree n l l2) (hm : m ≤ n) : Agree m l l2 := by
  unfold Agree at h ⊢
  have := congrArg (List.take (m + 1)) h
  rwa [List.take_take, List.take_take, Nat.min_eq_left (by omega)] at this
theorem Agree.drop {n a : Nat} {l l2 : List UInt8} (h : Agree (a + n) l l2) : Agree n (l.drop a) (l2.drop a) := by
  unfold Agree at h ⊢
  rw [List.take_drop, List.take_drop, show a + (n + 1) = a + n + 1 from rfl, h]
theorem Agree.take {n m : Nat} {l l2 : List UInt8} (h : Agree n l l2) (hm : m ≤ n + 1) : l2.take m = l.take m := by
  cases m with
  | zero => simp
  | succ m => exact h.le (by omega)
end Go.Proofs.YtokpnfljjjjikaaGreatDoor.PathL
