/- PathLimits: the pure law: eight closed cases. -/
import Derived.Test.YtokpnfljjjjikaaDoorQPathx11
namespace Go.Proofs.YtokpnfljjjjikaaDoor.PathL
open Go.RowKit Go.Proofs.YtokpnfljjjjikaaDoor Go.Proofs.YtokpnfljjjjikaaDoor.QPath Go.Proofs.YtokpnfljjjjikaaDoorW.PrintWords Go.Proofs.YtokpnfljjjjikaaDoorW.PrintMore

theorem limits_mod (k : Nat) (n : Int) (a1 : Bool) (hn : 0 ≤ n) : frankinglaw15_PathLimits.f k n a1 = frankinglaw15_PathLimits.f k (Int.tmod n 4) a1 := by
  unfold frankinglaw15_PathLimits.f
  rw [show Int.tmod (Int.tmod n 4) 4 = Int.tmod n 4 from by rw [Int.tmod_eq_emod_of_nonneg hn, Int.tmod_eq_emod_of_nonneg (by omega)]; omega]
theorem limits_0f : frankinglaw15_PathLimits.f 700 0 false = some true := by decide +kernel
theorem limits_0t : frankinglaw15_PathLimits.f 700 0 true = some true := by decide +kernel
theorem limits_1f : frankinglaw15_PathLimits.f 700 1 false = some true := by decide +kernel
theorem limits_1t : frankinglaw15_PathLimits.f 700 1 true = some true := by decide +kernel
theorem limits_2f : frankinglaw15_PathLimits.f 700 2 false = some true := by decide +kernel
theorem limits_2t : frankinglaw15_PathLimits.f 700 2 true = some true := by decide +kernel
theorem limits_3f : frankinglaw15_PathLimits.f 700 3 false = some true := by decide +kernel
theorem limits_3t : frankinglaw15_PathLimits.f 700 3 true = some true := by decide +kernel
theorem pathLimits_pure (n : Int) (a1 : Bool) (hn : 0 ≤ n) : ∃ k, frankinglaw15_PathLimits.f k n a1 = some true := by
  refine ⟨700, ?_⟩
  rw [limits_mod _ _ _ hn]
  have h : Int.tmod n 4 = 0 ∨ Int.tmod n 4 = 1 ∨ Int.tmod n 4 = 2 ∨ Int.tmod n 4 = 3 := by
    rw [Int.tmod_eq_emod_of_nonneg hn]
    omega
  rcases h with h | h | h | h <;> rw [h] <;> cases a1
  · exact limits_0f
  · exact limits_0t
  · exact limits_1f
  · exact limits_1t
  · exact limits_2f
  · exact limits_2t
  · exact limits_3f
  · exact limits_3t
end Go.Proofs.YtokpnfljjjjikaaDoor.PathL
