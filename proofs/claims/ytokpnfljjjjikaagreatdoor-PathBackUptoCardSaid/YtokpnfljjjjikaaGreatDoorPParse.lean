/- What Parse tells, over lists. -/
import Derived.Test.YtokpnfljjjjikaaGreatDoorPFront
import Derived.Test.YtokpnfljjjjikaaGreatDoorQPathx10
import Derived.Test.YtokpnfljjjjikaaGreatDoorQPathx9
namespace Go.Proofs.YtokpnfljjjjikaaGreatDoor.PathL
open Go.RowKit Go.Proofs.YtokpnfljjjjikaaGreatDoor Go.Proofs.YtokpnfljjjjikaaGreatDoor.QPath Go.Proofs.YtokpnfljjjjikaaGreatDoorW.PrintWords Go.Proofs.YtokpnfljjjjikaaGreatDoorW.PrintMore

abbrev PathRes := Bool × List ByteArray × ByteArray × ByteArray × Bool × Int × Int
def nullRes : PathRes := (true, [], ⟨#[]⟩, ⟨#[]⟩, false, 2, 0)
theorem rest_zero (s : ByteArray) : rest s 0 = s.data.toList := rfl
theorem prefix_eq (s : ByteArray) (hs : s.size < 4611686018427387904) : strings_HasPrefix.f s ⟨#[60, 62]⟩ = some (nullL s.data.toList) := by
  have hlen := data_length s
  unfold strings_HasPrefix.f stringslite_HasPrefix.f
  have h2 : ((⟨#[60, 62]⟩ : ByteArray).size : Int) = 2 := rfl
  rw [h2]
  by_cases h : 2 ≤ s.size
  · rw [if_pos (by omega), if_pos (by omega), if_pos (by omega)]
    simp only [Option.bind_some]
    congr 1
    have e : s.extract 0 ((2 : Int)).toNat = mkText (s.data.toList.take 2) := by
      have := extract_rest s 0 2 (by omega)
      simpa [rest_zero] using this
    rw [e, ByteArray.toList_eq, ByteArray.toList_eq]
    show (s.data.toList.take 2 == [60, 62]) = _
    unfold nullL
    rcases hl : s.data.toList with _ | ⟨a, _ | ⟨b, l⟩⟩
    · rw [hl] at hlen; simp at hlen; omega
    · rw [hl] at hlen; simp at hlen; omega
    · show ([a, b] == [60, 62]) = ((a == 60) && (b == 62))
      simp [BEq.beq, List.beq]
  · rw [if_neg (by omega)]
    simp only [Option.bind_some]
    congr 1
    unfold nullL
    rcases hl : s.data.toList with _ | ⟨a, _ | ⟨b, l⟩⟩
    · rfl
    · show false = ((a == 60) && false)
      rw [Bool.and_false]
    · rw [hl] at hlen; simp at hlen; omega
theorem parse_null (s : ByteArray) (hs : s.size < 4294967281) (k : Nat) (h : nullL s.data.toList = true) : path_Parse.f k s = some nullRes := by
  unfold path_Parse.f
  rw [prefix_eq s (by omega)]
  simp only [Option.bind_some]
  rw [if_pos h]
  rfl
theorem parse_syn (s : ByteArray) (hs : s.size < 4294967281) (k : Nat) (hk : s.size + 6 < k) (h0 : nullL s.data.toList = false) (h : synL s.data.toList = true) :
    path_Parse.f k s = path_Parse.j0 k false s ((2 + (innerL (s.data.toList.drop 1)).2.2.2.2.2 : Nat) : Int) false (innerL (s.data.toList.drop 1)).2.1 (innerL (s.data.toList.drop 1)).2.2.1 (innerL (s.data.toList.drop 1)).2.2.2.1 (innerL (s.data.toList.drop 1)).2.2.2.2.1 := by
  unfold synL at h
  simp only [Bool.and_eq_true] at h
  obtain ⟨⟨h1, h2⟩, h3⟩ := h
  have hpos := nextIs_pos h1
  rw [data_length] at hpos
  unfold path_Parse.f
  rw [prefix_eq s (by omega)]
  simp only [Option.bind_some]
  rw [if_neg (by rw [h0]; decide)]
  rw [show (0 : Int) = ((0 : Nat) : Int) from rfl, take_eq s 0 60 60 rfl (by omega), rest_zero, if_pos h1]
  simp only [Option.bind_some, Nat.zero_add]
  have hr1 : rest s 1 = s.data.toList.drop 1 := rfl
  rw [inner_eq s hs k 1 (by rw [rest_length]; omega) (by omega), hr1]
  simp only [Option.bind_some]
  rw [if_pos h1, if_pos h2, take_eq s _ 62 62 rfl (by omega)]
  have hr2 : rest s (1 + (innerL (s.data.toList.drop 1)).2.2.2.2.2) = s.data.toList.drop (1 + (innerL (s.data.toList.drop 1)).2.2.2.2.2) := rfl
  rw [hr2, h3]
  simp only [Option.bind_some, if_true, Bool.not_true]
  rw [show 1 + (innerL (s.data.toList.drop 1)).2.2.2.2.2 + 1 = 2 + (innerL (s.data.toList.drop 1)).2.2.2.2.2 from by omega]
theorem same_run (b : List ByteArray) (c d c2 d2 : ByteArray) (a e a2 e2 : Bool) : ∀ (k i : Nat), b.length - i < k → i ≤ b.length → b.length < 4611686018427387904 → frankinglaw15_Same.l0 k (b.length : Int) (i : Int) a b c d e a2 b c2 d2 e2 = some true
  | 0, _, h, _, _ => absurd h (Nat.not_lt_zero _)
  | k + 1, i, h, hi, hl => by
    unfold frankinglaw15_Same.l0
    by_cases hlt : i < b.length
    · rw [if_pos (by omega), if_pos (by omega), if_pos (by omega), if_pos (by omega), if_pos rfl, wrapS i (by omega)]
      exact same_run b c d c2 d2 a e a2 e2 k (i + 1) (by omega) (by omega) hl
    · rw [if_neg (by omega)]
theorem same_self (a : Bool) (b : List ByteArray) (c d : ByteArray) (e : Bool) (k : Nat) (hk : b.length + 2 < k) (hl : b.length < 4611686018427387904) : frankinglaw15_Same.f k a b c d e a b c d e = some true := by
  unfold frankinglaw15_Same.f
  obtain ⟨k, rfl⟩ : ∃ k', k = k' + 1 := ⟨k - 1, by omega⟩
  rw [if_neg (by simp), if_neg (by simp), frankinglaw15_Same.j0, if_neg (by simp)]
  exact same_run b c d c d a e a e k 0 (by omega) (Nat.zero_le _) hl
theorem awake_true : frankinglaw15_awake.f 100 = some true := by decide +kernel
theorem awake_more (k : Nat) (hk : 100 ≤ k) : frankinglaw15_awake.f k = some true := at_rounds (fun k => frankinglaw15_awake.mono k) hk awake_true
end Go.Proofs.YtokpnfljjjjikaaGreatDoor.PathL
