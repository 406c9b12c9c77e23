/- More of the reader over lists: what stands behind, small letters. -/
import Derived.Test.YtokpnfljjjjikaaGreatDoorPFront
namespace Go.Proofs.YtokpnfljjjjikaaGreatDoor.PathL
open Go.RowKit Go.Proofs.YtokpnfljjjjikaaGreatDoor Go.Proofs.YtokpnfljjjjikaaGreatDoor.QPath Go.Proofs.YtokpnfljjjjikaaGreatDoorW.PrintWords Go.Proofs.YtokpnfljjjjikaaGreatDoorW.PrintMore
set_option linter.unusedVariables false
set_option linter.unusedSimpArgs false

def Stops (P : UInt8 → Bool) (t : List UInt8) : Prop := ∀ b t', t = b :: t' → P b = false
theorem tw_more {P : UInt8 → Bool} {t : List UInt8} (h : Stops P t) : ∀ l : List UInt8, (l ++ t).takeWhile P = l.takeWhile P
  | [] => by
    cases t with
    | nil => rfl
    | cons b t => rw [List.nil_append, List.takeWhile_cons_of_neg (by rw [h b t rfl]; decide)]; rfl
  | b :: l => by
    by_cases hb : P b = true
    · rw [List.cons_append, List.takeWhile_cons_of_pos hb, List.takeWhile_cons_of_pos hb, tw_more h l]
    · rw [List.cons_append, List.takeWhile_cons_of_neg hb, List.takeWhile_cons_of_neg hb]
theorem tw_stop (P : UInt8 → Bool) : ∀ l : List UInt8, Stops P (l.drop (l.takeWhile P).length)
  | [] => by intro b t' h; simp at h
  | b :: l => by
    by_cases hb : P b = true
    · rw [List.takeWhile_cons_of_pos hb]
      exact tw_stop P l
    · rw [List.takeWhile_cons_of_neg hb]
      intro c t' h
      cases h
      exact Bool.eq_false_iff.mpr hb
theorem next_more {c : UInt8} {l t : List UInt8} {n : Nat} (hn : n ≤ l.length) (h : nextIs c t = false) : nextIs c ((l ++ t).drop n) = nextIs c (l.drop n) := by
  rw [List.drop_append_of_le_length hn]
  cases l.drop n with
  | nil => rw [List.nil_append, h]; rfl
  | cons b l => rfl
theorem labelL_more {t : List UInt8} (h : Stops labB t) (l : List UInt8) : labelL (l ++ t) = labelL l := by
  unfold labelL
  rw [tw_more h l]
theorem atomL_more {t : List UInt8} (h : Stops atomB t) (l : List UInt8) : atomL (l ++ t) = atomL l := by
  unfold atomL
  rw [tw_more h l]
theorem listL_more {part : List UInt8 → Bool × Nat} {c : UInt8} {t : List UInt8} (hp : ∀ l, (part l).2 ≤ l.length) (hpt : ∀ l, part (l ++ t) = part l) (hc : nextIs c t = false) :
    ∀ (n : Nat) (l : List UInt8), l.length < n → listL part c (l ++ t) = listL part c l
  | 0, _, h => absurd h (Nat.not_lt_zero _)
  | n + 1, l, h => by
    rw [listL_eq part c (l ++ t), listL_eq part c l, hpt, next_more (hp l) hc]
    by_cases h1 : (part l).1 = true
    · rw [if_pos h1, if_pos h1]
      by_cases h2 : nextIs c (l.drop (part l).2) = true
      · have h3 := nextIs_drop h2
        rw [if_pos h2, if_pos h2, List.drop_append_of_le_length (by omega), listL_more hp hpt hc n _ (by rw [List.length_drop]; omega)]
      · rw [if_neg h2, if_neg h2]
    · rw [if_neg h1, if_neg h1]
theorem listL_stop {part : List UInt8 → Bool × Nat} {P : UInt8 → Bool} {c : UInt8} (hp : ∀ l : List UInt8, Stops P (l.drop (part l).2)) :
    ∀ (n : Nat) (l : List UInt8), l.length < n → (listL part c l).1 = true → Stops P (l.drop (listL part c l).2) ∧ nextIs c (l.drop (listL part c l).2) = false
  | 0, _, h, _ => absurd h (Nat.not_lt_zero _)
  | n + 1, l, h, h1 => by
    rw [listL_eq] at h1 ⊢
    by_cases h2 : (part l).1 = true
    · rw [if_pos h2] at h1 ⊢
      by_cases h3 : nextIs c (l.drop (part l).2) = true
      · have h4 := nextIs_drop h3
        rw [if_pos h3] at h1 ⊢
        have h5 := listL_stop hp n (l.drop ((part l).2 + 1)) (by rw [List.length_drop]; omega) h1
        rw [List.drop_drop] at h5
        exact h5
      · rw [if_neg h3]
        exact ⟨hp l, Bool.eq_false_iff.mpr h3⟩
    · rw [if_neg h2] at h1
      cases h1
theorem labelL_stop (l : List UInt8) : Stops labB (l.drop (labelL l).2) := tw_stop labB l
theorem atomL_stop (l : List UInt8) : Stops atomB (l.drop (atomL l).2) := tw_stop atomB l
theorem labels_more {t : List UInt8} (h : Stops labB t) (h2 : nextIs 46 t = false) (l : List UInt8) : listL labelL 46 (l ++ t) = listL labelL 46 l :=
  listL_more labelL_le (labelL_more h) h2 _ l (Nat.lt_succ_self _)
theorem atoms_more {t : List UInt8} (h : Stops atomB t) (h2 : nextIs 46 t = false) (l : List UInt8) : listL atomL 46 (l ++ t) = listL atomL 46 l :=
  listL_more atomL_le (atomL_more h) h2 _ l (Nat.lt_succ_self _)
theorem labels_take (l : List UInt8) (h : (listL labelL 46 l).1 = true) : listL labelL 46 (l.take (listL labelL 46 l).2) = (true, (listL labelL 46 l).2) := by
  obtain ⟨h1, h2⟩ := listL_stop (P := labB) labelL_stop _ l (Nat.lt_succ_self _) h
  have h3 := labels_more h1 h2 (l.take (listL labelL 46 l).2)
  rw [List.take_append_drop] at h3
  rw [← h3, ← h]
theorem atoms_take (l : List UInt8) (h : (listL atomL 46 l).1 = true) : listL atomL 46 (l.take (listL atomL 46 l).2) = (true, (listL atomL 46 l).2) := by
  obtain ⟨h1, h2⟩ := listL_stop (P := atomB) atomL_stop _ l (Nat.lt_succ_self _) h
  have h3 := atoms_more h1 h2 (l.take (listL atomL 46 l).2)
  rw [List.take_append_drop] at h3
  rw [← h3, ← h]

def lowB (b : UInt8) : UInt8 := UInt8.ofNat (lowI (b.toNat : Int)).toNat
theorem small_mk (l : List UInt8) : path_small.g (mkText l) = mkText (l.map lowB) := by
  unfold path_small.g strOfNums bytesOf mkText
  congr 1
  simp only [List.map_map]
  rfl
theorem lab_low (b : UInt8) : labB (lowB b) = labB b := forall_byte (Q := fun b => labB (lowB b) = labB b) (by decide +kernel) b
theorem low_low (b : UInt8) : lowB (lowB b) = lowB b := forall_byte (Q := fun b => lowB (lowB b) = lowB b) (by decide +kernel) b
theorem low_45 (b : UInt8) : (lowB b != 45) = (b != 45) := forall_byte (Q := fun b => (lowB b != 45) = (b != 45)) (by decide +kernel) b
theorem low_46 (b : UInt8) : (lowB b == 46) = (b == 46) := forall_byte (Q := fun b => (lowB b == 46) = (b == 46)) (by decide +kernel) b
theorem map_low_low (l : List UInt8) : (l.map lowB).map lowB = l.map lowB := by
  rw [List.map_map]
  congr 1
  funext b
  exact low_low b
theorem tw_low (l : List UInt8) : (l.map lowB).takeWhile labB = (l.takeWhile labB).map lowB := by
  rw [List.takeWhile_map]
  congr 2
  funext b
  exact lab_low b
theorem getD_low (l : List UInt8) (n : Nat) : (l.map lowB).getD n 0 = lowB (l.getD n 0) := by
  rw [List.getD_eq_getElem?_getD, List.getD_eq_getElem?_getD, List.getElem?_map]
  cases l[n]? with
  | none => rfl
  | some b => rfl
theorem labelL_low (l : List UInt8) : labelL (l.map lowB) = labelL l := by
  unfold labelL
  rw [tw_low, List.length_map]
  cases l.takeWhile labB with
  | nil => rfl
  | cons c t =>
    show (lowB c != 45 && ((c :: t).map lowB).getD (t.map lowB).length 0 != 45, _) = (c != 45 && (c :: t).getD t.length 0 != 45, _)
    rw [getD_low, low_45, low_45, List.length_map]
theorem next_low (l : List UInt8) : nextIs 46 (l.map lowB) = nextIs 46 l := by
  cases l with
  | nil => rfl
  | cons b l => exact low_46 b
theorem labels_low : ∀ (n : Nat) (l : List UInt8), l.length < n → listL labelL 46 (l.map lowB) = listL labelL 46 l
  | 0, _, h => absurd h (Nat.not_lt_zero _)
  | n + 1, l, h => by
    rw [listL_eq labelL 46 (l.map lowB), listL_eq labelL 46 l, labelL_low, ← List.map_drop, next_low]
    by_cases h1 : (labelL l).1 = true
    · rw [if_pos h1, if_pos h1]
      by_cases h2 : nextIs 46 (l.drop (labelL l).2) = true
      · have h3 := nextIs_drop h2
        rw [if_pos h2, if_pos h2, ← List.map_drop, labels_low n _ (by rw [List.length_drop]; omega)]
      · rw [if_neg h2, if_neg h2]
    · rw [if_neg h1, if_neg h1]
def domT (l : List UInt8) : List UInt8 := (l.take (listL labelL 46 l).2).map lowB
theorem domL_text (l : List UInt8) : (domL l).2.1 = mkText (domT l) := small_mk _
theorem domT_length (l : List UInt8) : (domT l).length = (domL l).2.2 := by
  have h := domL_le l
  unfold domT
  rw [List.length_map, List.length_take]
  exact Nat.min_eq_left h
theorem dom_back (l t : List UInt8) (h : (domL l).1 = true) (ht : Stops labB t) (h2 : nextIs 46 t = false) : domL (domT l ++ t) = (true, mkText (domT l), (domT l).length) := by
  have h1 : listL labelL 46 (domT l ++ t) = (true, (domT l).length) := by
    rw [labels_more ht h2]
    unfold domT
    rw [labels_low _ _ (Nat.lt_succ_self _), labels_take l h, List.length_map, List.length_take, Nat.min_eq_left (show (listL labelL 46 l).2 ≤ l.length from domL_le l)]
  unfold domL
  rw [h1]
  simp only
  rw [List.take_left', small_mk]
  · unfold domT
    rw [map_low_low]
  · rfl

theorem listL_bytes {part : List UInt8 → Bool × Nat} {R : UInt8 → Prop} {c : UInt8} (hc : R c) (hp : ∀ (l : List UInt8) (b : UInt8), b ∈ l.take (part l).2 → R b) :
    ∀ (n : Nat) (l : List UInt8), l.length < n → ∀ b, b ∈ l.take (listL part c l).2 → R b
  | 0, _, h => absurd h (Nat.not_lt_zero _)
  | n + 1, l, h => by
    intro b hb
    rw [listL_eq] at hb
    by_cases h1 : (part l).1 = true
    · rw [if_pos h1] at hb
      by_cases h2 : nextIs c (l.drop (part l).2) = true
      · have h3 := nextIs_drop h2
        rw [if_pos h2] at hb
        simp only at hb
        rw [List.take_add, List.mem_append, List.take_add, List.mem_append] at hb
        rcases hb with (hb | hb) | hb
        · exact hp l b hb
        · cases hl : l.drop (part l).2 with
          | nil => rw [hl] at hb; simp at hb
          | cons d l' =>
            rw [hl] at hb h2
            simp at hb
            have : d = c := by simpa [nextIs] using h2
            rw [hb, this]
            exact hc
        · exact listL_bytes hc hp n _ (by rw [List.length_drop]; omega) b hb
      · rw [if_neg h2] at hb
        exact hp l b hb
    · rw [if_neg h1] at hb
      exact hp l b hb
def Fine (b : UInt8) : Prop := ¬ (b < 32 ∨ 126 < b)
instance (b : UInt8) : Decidable (Fine b) := by unfold Fine; infer_instance
theorem atom_fine (b : UInt8) : atomB b = true → Fine b := forall_byte (Q := fun b => atomB b = true → Fine b) (by decide +kernel) b
theorem atom_not34 (b : UInt8) : atomB b = true → b ≠ 34 := forall_byte (Q := fun b => atomB b = true → b ≠ 34) (by decide +kernel) b
theorem mem_tw {P : UInt8 → Bool} : ∀ (l : List UInt8) (b : UInt8), b ∈ l.takeWhile P → P b = true
  | [], _, h => by cases h
  | c :: l, b, h => by
    by_cases hc : P c = true
    · rw [List.takeWhile_cons_of_pos hc] at h
      rcases List.mem_cons.mp h with rfl | h
      · exact hc
      · exact mem_tw l b h
    · rw [List.takeWhile_cons_of_neg hc] at h
      cases h
theorem atoms_fine (l : List UInt8) (b : UInt8) (hb : b ∈ l.take (listL atomL 46 l).2) : Fine b :=
  listL_bytes (R := Fine) (by decide) (fun l b hb => atom_fine b (mem_tw l b (by
    have e : l.take (atomL l).2 = l.takeWhile atomB := takeWhile_take atomB l
    rwa [e] at hb))) _ l (Nat.lt_succ_self _) b hb
theorem quotL_fine : ∀ (n : Nat) (l acc : List UInt8), l.length < n → (∀ b, b ∈ acc → Fine b) → ∀ b, b ∈ (quotL l acc).2.1 → Fine b
  | 0, _, _, h, _ => absurd h (Nat.not_lt_zero _)
  | n + 1, l, acc, h, ha => by
    intro d hd
    cases l with
    | nil => unfold quotL at hd; cases hd
    | cons b l =>
      unfold quotL at hd
      by_cases hq : b = 34
      · rw [if_pos hq] at hd
        exact ha d hd
      · rw [if_neg hq] at hd
        by_cases hb : b = 92
        · rw [if_pos hb] at hd
          cases l with
          | nil => cases hd
          | cons c l' =>
            by_cases hc : c < 32 ∨ 126 < c
            · simp only [if_pos hc] at hd
              cases hd
            · simp only [if_neg hc] at hd
              refine quotL_fine n l' (acc ++ [c]) (by simp at h; omega) (fun x hx => ?_) d hd
              rcases List.mem_append.mp hx with hx | hx
              · exact ha x hx
              · rw [List.mem_singleton.mp hx]; exact hc
        · rw [if_neg hb] at hd
          by_cases hc : b < 32 ∨ 126 < b
          · rw [if_pos hc] at hd
            cases hd
          · rw [if_neg hc] at hd
            refine quotL_fine n l (acc ++ [b]) (by simp at h; omega) (fun x hx => ?_) d hd
            rcases List.mem_append.mp hx with hx | hx
            · exact ha x hx
            · rw [List.mem_singleton.mp hx]; exact hc
def localT (l : List UInt8) : List UInt8 := if nextIs 34 l = true then (quotL (l.drop 1) []).2.1 else l.take (listL atomL 46 l).2
theorem localL_text (l : List UInt8) : (localL l).2.1 = mkText (localT l) := by
  unfold localL localT
  split <;> rfl
theorem localT_fine (l : List UInt8) (b : UInt8) (hb : b ∈ localT l) : Fine b := by
  unfold localT at hb
  split at hb
  · exact quotL_fine _ _ [] (Nat.lt_succ_self _) (fun _ h => by cases h) b hb
  · exact atoms_fine l b hb
def qB (b : UInt8) : List UInt8 := if b = 34 ∨ b = 92 then [92, b] else [b]
def qL (l : List UInt8) : List UInt8 := l.flatMap qB
theorem quotL_back (t : List UInt8) : ∀ (l acc : List UInt8), (∀ b, b ∈ l → Fine b) → quotL (qL l ++ 34 :: t) acc = (true, acc ++ l, (qL l).length + 1)
  | [], acc, _ => by
    show quotL (34 :: t) acc = _
    unfold quotL
    simp [qL]
  | b :: l, acc, h => by
    have hf := h b (List.mem_cons_self ..)
    have ih := quotL_back t l (acc ++ [b]) (fun x hx => h x (List.mem_cons_of_mem _ hx))
    have e : qL (b :: l) = qB b ++ qL l := rfl
    rw [e, List.append_assoc]
    unfold qB
    by_cases hb : b = 34 ∨ b = 92
    · rw [if_pos hb]
      show quotL (92 :: b :: (qL l ++ 34 :: t)) acc = _
      unfold quotL
      rw [if_neg (by decide), if_pos rfl]
      simp only
      rw [if_neg hf, ih]
      simp
    · rw [if_neg hb]
      show quotL (b :: (qL l ++ 34 :: t)) acc = _
      unfold quotL
      rw [if_neg (fun h => hb (.inl h)), if_neg (fun h => hb (.inr h)), if_neg hf, ih]
      simp
def plainL (l : List UInt8) : Bool := (listL atomL 46 l).1 && (listL atomL 46 l).2 == l.length
def wroteL (l : List UInt8) : List UInt8 := if plainL l = true then l else 34 :: (qL l ++ [34])
theorem local_back (l t : List UInt8) (h : ∀ b, b ∈ l → Fine b) (ht : Stops atomB t) (h2 : nextIs 46 t = false) : localL (wroteL l ++ t) = (true, mkText l, (wroteL l).length) := by
  unfold wroteL
  by_cases hp : plainL l = true
  · rw [if_pos hp]
    unfold plainL at hp
    simp only [Bool.and_eq_true, beq_iff_eq] at hp
    have hn : nextIs 34 (l ++ t) = false := by
      have h1 : (listL atomL 46 l).1 = true := hp.1
      rw [listL_eq] at h1
      cases l with
      | nil => simp [atomL] at h1
      | cons b l =>
        have hb : atomB b = true := by
          by_cases hb : atomB b = true
          · exact hb
          · exfalso
            have : (atomL (b :: l)).1 = false := by
              unfold atomL
              rw [List.takeWhile_cons_of_neg hb]
              rfl
            rw [this] at h1
            simp at h1
        have := atom_not34 b hb
        show (b == 34) = false
        simpa using this
    unfold localL
    rw [if_neg (by rw [hn]; decide), atoms_more ht h2, hp.1, hp.2, List.take_left']
    rfl
  · rw [if_neg hp]
    unfold localL
    rw [if_pos (show nextIs 34 (34 :: (qL l ++ [34]) ++ t) = true from rfl)]
    have e : ((34 : UInt8) :: (qL l ++ [34]) ++ t).drop 1 = qL l ++ 34 :: t := by simp
    rw [e, quotL_back t l [] h]
    simp
    omega
end Go.Proofs.YtokpnfljjjjikaaGreatDoor.PathL
