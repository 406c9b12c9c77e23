/- More of the reader over lists: what stands behind, small letters. -/
import Derived.Test.YtokpnfljjjjikaaGreatDoorPFront
namespace Go.Proofs.YtokpnfljjjjikaaGreatDoor.PathL
open Go.RowKit Go.Proofs.YtokpnfljjjjikaaGreatDoor Go.Proofs.YtokpnfljjjjikaaGreatDoor.QPath Go.Proofs.YtokpnfljjjjikaaGreatDoorW.PrintWords Go.Proofs.YtokpnfljjjjikaaGreatDoorW.PrintMore
set_option linter.unusedVariables false
set_option linter.unusedSimpArgs false

def Stops (P : UInt8 → Bool) (t : List UInt8) : Prop := ∀ b t', t = b :: t' → P b = false
theorem tw_more {P : UInt8 → Bool} {t : List UInt8} (h : Stops P t) : ∀ l : List UInt8, (l ++ t).takeWhile P = l.takeWhile P
  | [] => by
    cases t with
    | nil => rfl
    | cons b t => rw [List.nil_append, List.takeWhile_cons_of_neg (by rw [h b t rfl]; decide)]; rfl
  | b :: l => by
    by_cases hb : P b = true
    · rw [List.cons_append, List.takeWhile_cons_of_pos hb, List.takeWhile_cons_of_pos hb, tw_more h l]
    · rw [List.cons_append, List.takeWhile_cons_of_neg hb, List.takeWhile_cons_of_neg hb]
theorem next_more {c : UInt8} {l t : List UInt8} {n : Nat} (hn : n ≤ l.length) (h : nextIs c t = false) : nextIs c ((l ++ t).drop n) = nextIs c (l.drop n) := by
  rw [List.drop_append_of_le_length hn]
  cases l.drop n with
  | nil => rw [List.nil_append, h]; rfl
  | cons b l => rfl
theorem labelL_more {t : List UInt8} (h : Stops labB t) (l : List UInt8) : labelL (l ++ t) = labelL l := by
  unfold labelL
  rw [tw_more h l]
theorem atomL_more {t : List UInt8} (h : Stops atomB t) (l : List UInt8) : atomL (l ++ t) = atomL l := by
  unfold atomL
  rw [tw_more h l]
theorem listL_more {part : List UInt8 → Bool × Nat} {c : UInt8} {t : List UInt8} (hp : ∀ l, (part l).2 ≤ l.length) (hpt : ∀ l, part (l ++ t) = part l) (hc : nextIs c t = false) :
    ∀ (n : Nat) (l : List UInt8), l.length < n → listL part c (l ++ t) = listL part c l
  | 0, _, h => absurd h (Nat.not_lt_zero _)
  | n + 1, l, h => by
    rw [listL_eq part c (l ++ t), listL_eq part c l, hpt, next_more (hp l) hc]
    by_cases h1 : (part l).1 = true
    · rw [if_pos h1, if_pos h1]
      by_cases h2 : nextIs c (l.drop (part l).2) = true
      · have h3 := nextIs_drop h2
        rw [if_pos h2, if_pos h2, List.drop_append_of_le_length (by omega), listL_more hp hpt hc n _ (by rw [List.length_drop]; omega)]
      · rw [if_neg h2, if_neg h2]
    · rw [if_neg h1, if_neg h1]
theorem labels_more {t : List UInt8} (h : Stops labB t) (h2 : nextIs 46 t = false) (l : List UInt8) : listL labelL 46 (l ++ t) = listL labelL 46 l :=
  listL_more labelL_le (labelL_more h) h2 _ l (Nat.lt_succ_self _)
theorem atoms_more {t : List UInt8} (h : Stops atomB t) (h2 : nextIs 46 t = false) (l : List UInt8) : listL atomL 46 (l ++ t) = listL atomL 46 l :=
  listL_more atomL_le (atomL_more h) h2 _ l (Nat.lt_succ_self _)
def lowB (b : UInt8) : UInt8 := UInt8.ofNat (lowI (b.toNat : Int)).toNat
theorem small_mk (l : List UInt8) : path_small.g (mkText l) = mkText (l.map lowB) := by
  unfold path_small.g strOfNums bytesOf mkText
  congr 1
  simp only [List.map_map]
  rfl
def Fine (b : UInt8) : Prop := ¬ (b < 32 ∨ 126 < b)
instance (b : UInt8) : Decidable (Fine b) := by unfold Fine; infer_instance
theorem atom_not34 (b : UInt8) : atomB b = true → b ≠ 34 := forall_byte (Q := fun b => atomB b = true → b ≠ 34) (by decide +kernel) b
def qB (b : UInt8) : List UInt8 := if b = 34 ∨ b = 92 then [92, b] else [b]
def qL (l : List UInt8) : List UInt8 := l.flatMap qB
theorem quotL_back (t : List UInt8) : ∀ (l acc : List UInt8), (∀ b, b ∈ l → Fine b) → quotL (qL l ++ 34 :: t) acc = (true, acc ++ l, (qL l).length + 1)
  | [], acc, _ => by
    show quotL (34 :: t) acc = _
    unfold quotL
    simp [qL]
  | b :: l, acc, h => by
    have hf := h b (List.mem_cons_self ..)
    have ih := quotL_back t l (acc ++ [b]) (fun x hx => h x (List.mem_cons_of_mem _ hx))
    have e : qL (b :: l) = qB b ++ qL l := rfl
    rw [e, List.append_assoc]
    unfold qB
    by_cases hb : b = 34 ∨ b = 92
    · rw [if_pos hb]
      show quotL (92 :: b :: (qL l ++ 34 :: t)) acc = _
      unfold quotL
      rw [if_neg (by decide), if_pos rfl]
      simp only
      rw [if_neg hf, ih]
      simp
    · rw [if_neg hb]
      show quotL (b :: (qL l ++ 34 :: t)) acc = _
      unfold quotL
      rw [if_neg (fun h => hb (.inl h)), if_neg (fun h => hb (.inr h)), if_neg hf, ih]
      simp
def plainL (l : List UInt8) : Bool := (listL atomL 46 l).1 && (listL atomL 46 l).2 == l.length
def wroteL (l : List UInt8) : List UInt8 := if plainL l = true then l else 34 :: (qL l ++ [34])
theorem local_back (l t : List UInt8) (h : ∀ b, b ∈ l → Fine b) (ht : Stops atomB t) (h2 : nextIs 46 t = false) : localL (wroteL l ++ t) = (true, mkText l, (wroteL l).length) := by
  unfold wroteL
  by_cases hp : plainL l = true
  · rw [if_pos hp]
    unfold plainL at hp
    simp only [Bool.and_eq_true, beq_iff_eq] at hp
    have hn : nextIs 34 (l ++ t) = false := by
      have h1 : (listL atomL 46 l).1 = true := hp.1
      rw [listL_eq] at h1
      cases l with
      | nil => simp [atomL] at h1
      | cons b l =>
        have hb : atomB b = true := by
          by_cases hb : atomB b = true
          · exact hb
          · exfalso
            have : (atomL (b :: l)).1 = false := by
              unfold atomL
              rw [List.takeWhile_cons_of_neg hb]
              rfl
            rw [this] at h1
            simp at h1
        have := atom_not34 b hb
        show (b == 34) = false
        simpa using this
    unfold localL
    rw [if_neg (by rw [hn]; decide), atoms_more ht h2, hp.1, hp.2, List.take_left']
    rfl
  · rw [if_neg hp]
    unfold localL
    rw [if_pos (show nextIs 34 (34 :: (qL l ++ [34]) ++ t) = true from rfl)]
    have e : ((34 : UInt8) :: (qL l ++ [34]) ++ t).drop 1 = qL l ++ 34 :: t := by simp
    rw [e, quotL_back t l [] h]
    simp
    omega
end Go.Proofs.YtokpnfljjjjikaaGreatDoor.PathL
