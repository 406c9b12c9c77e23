/- Parse over lists; no path begins another. -/
import Derived.Test.YtokpnfljjjjikaaGreatDoorPLoc
namespace Go.Proofs.YtokpnfljjjjikaaGreatDoor.PathL
open Go.RowKit Go.Proofs.YtokpnfljjjjikaaGreatDoor Go.Proofs.YtokpnfljjjjikaaGreatDoor.QPath Go.Proofs.YtokpnfljjjjikaaGreatDoorW.PrintWords Go.Proofs.YtokpnfljjjjikaaGreatDoorW.PrintMore

theorem small_size (x : ByteArray) : (path_small.g x).size = x.size := by
  unfold path_small.g
  rw [strOfNums_size, List.length_map, bytesOf_length]
theorem domL_size (l : List UInt8) : (domL l).2.1.size ≤ l.length := by
  unfold domL
  show (path_small.g _).size ≤ _
  rw [small_size, mkText_size, List.length_take]
  omega
theorem boxL_size (l : List UInt8) : (boxL l).2.2.1.size ≤ l.length := by
  have hw := takeWhile_le wordB (l.drop ((localL l).2.2 + 2))
  have hd := domL_size (l.drop ((localL l).2.2 + 1))
  rw [List.length_drop] at hw hd
  have hs : (path_small.g (mkText ((l.drop ((localL l).2.2 + 2)).takeWhile wordB))).size ≤ l.length := by
    rw [small_size, mkText_size]
    omega
  unfold boxL
  split
  · split
    · split
      · split
        · exact hs
        · exact hs
      · exact Nat.le_trans hd (by omega)
    · exact Nat.zero_le _
  · exact Nat.zero_le _
theorem in1L_size (l : List UInt8) : (in1L l).2.1.size ≤ l.length := by
  unfold in1L
  split
  · exact Nat.le_trans (domL_size _) (by rw [List.length_drop]; omega)
  · exact domL_size l
theorem routeL_size : ∀ (n : Nat) (l : List UInt8), l.length < n → (routeL l).2.1.length ≤ l.length + 1 ∧ ∀ y, y ∈ (routeL l).2.1 → y.size ≤ l.length
  | 0, _, h => absurd h (Nat.not_lt_zero _)
  | n + 1, l, h => by
    have hi := in1L_size l
    have h1 : ∀ y, y ∈ [(in1L l).2.1] → y.size ≤ l.length := by
      intro y hy
      rw [List.mem_singleton.mp hy]
      exact hi
    rw [routeL_eq]
    split
    · split
      · rename_i h2
        have h3 := nextIs_drop h2
        obtain ⟨h4, h5⟩ := routeL_size n (l.drop ((in1L l).2.2 + 1)) (by rw [List.length_drop]; omega)
        rw [List.length_drop] at h4 h5
        refine ⟨?_, ?_⟩
        · show ((in1L l).2.1 :: _).length ≤ _
          rw [List.length_cons]
          omega
        · intro y hy
          rcases List.mem_cons.mp hy with rfl | hy
          · exact hi
          · exact Nat.le_trans (h5 y hy) (by omega)
      · exact ⟨by simp, h1⟩
    · exact ⟨by simp, h1⟩
theorem innerL_size (l : List UInt8) : (innerL l).2.1.length ≤ l.length + 1 ∧ (∀ y, y ∈ (innerL l).2.1 → y.size ≤ l.length) ∧ (innerL l).2.2.2.1.size ≤ l.length := by
  have hr := routeL_size _ l (Nat.lt_succ_self _)
  have hb := boxL_size l
  have hb2 := boxL_size (l.drop ((routeL l).2.2 + 1))
  rw [List.length_drop] at hb2
  have hn : ([] : List ByteArray).length ≤ l.length + 1 ∧ ∀ y, y ∈ ([] : List ByteArray) → y.size ≤ l.length := ⟨Nat.zero_le _, fun _ h => by cases h⟩
  unfold innerL
  split
  · exact ⟨hn.1, hn.2, Nat.zero_le _⟩
  · split
    · split
      · split
        · exact ⟨hr.1, hr.2, Nat.le_trans hb2 (by omega)⟩
        · exact ⟨hn.1, hn.2, Nat.zero_le _⟩
      · exact ⟨hn.1, hn.2, Nat.zero_le _⟩
    · exact ⟨hn.1, hn.2, hb⟩
def nullL (l : List UInt8) : Bool := nextIs 60 l && nextIs 62 (l.drop 1)
def synL (l : List UInt8) : Bool := nextIs 60 l && (innerL (l.drop 1)).1 && nextIs 62 (l.drop (1 + (innerL (l.drop 1)).2.2.2.2.2))
def takesL (l : List UInt8) (n : Nat) : Prop := (nullL l = true ∧ n = 2) ∨ (nullL l = false ∧ synL l = true ∧ n = 2 + (innerL (l.drop 1)).2.2.2.2.2)
theorem takesL_le {l : List UInt8} {n : Nat} (h : takesL l n) : 2 ≤ n ∧ n ≤ l.length := by
  rcases h with ⟨h, rfl⟩ | ⟨_, h, rfl⟩
  · unfold nullL at h
    simp only [Bool.and_eq_true] at h
    have := nextIs_drop h.2
    omega
  · unfold synL at h
    simp only [Bool.and_eq_true] at h
    have := nextIs_drop h.2
    omega
end Go.Proofs.YtokpnfljjjjikaaGreatDoor.PathL
