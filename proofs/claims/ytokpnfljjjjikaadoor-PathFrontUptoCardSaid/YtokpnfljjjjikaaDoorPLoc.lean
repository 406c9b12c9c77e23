/- What a reader tells hangs on no more than what it takes, and the byte behind. -/
import Derived.Test.YtokpnfljjjjikaaDoorPSpec
namespace Go.Proofs.YtokpnfljjjjikaaDoor.PathL
open Go.RowKit Go.Proofs.YtokpnfljjjjikaaDoor Go.Proofs.YtokpnfljjjjikaaDoor.QPath Go.Proofs.YtokpnfljjjjikaaDoorW.PrintWords Go.Proofs.YtokpnfljjjjikaaDoorW.PrintMore

/-- The same, up to n bytes and the one behind (or the end). -/
def Agree (n : Nat) (l l2 : List UInt8) : Prop := l2.take (n + 1) = l.take (n + 1)
theorem Agree.le {n m : Nat} {l l2 : List UInt8} (h : Agree n l l2) (hm : m ≤ n) : Agree m l l2 := by
  unfold Agree at h ⊢
  have := congrArg (List.take (m + 1)) h
  rwa [List.take_take, List.take_take, Nat.min_eq_left (by omega)] at this
theorem Agree.drop {n a : Nat} {l l2 : List UInt8} (h : Agree (a + n) l l2) : Agree n (l.drop a) (l2.drop a) := by
  unfold Agree at h ⊢
  rw [List.take_drop, List.take_drop, show a + (n + 1) = a + n + 1 from rfl, h]
theorem Agree.take {n m : Nat} {l l2 : List UInt8} (h : Agree n l l2) (hm : m ≤ n + 1) : l2.take m = l.take m := by
  cases m with
  | zero => simp
  | succ m => exact h.le (by omega)
theorem Agree.next {n : Nat} {l l2 : List UInt8} (h : Agree n l l2) (c : UInt8) : nextIs c l2 = nextIs c l := by
  have h0 := h.le (Nat.zero_le n)
  unfold Agree at h0
  cases l <;> cases l2 <;> simp at h0
  · rfl
  · subst h0; rfl
theorem Agree.nextAt {n a : Nat} {l l2 : List UInt8} (h : Agree n l l2) (ha : a ≤ n) (c : UInt8) : nextIs c (l2.drop a) = nextIs c (l.drop a) :=
  Agree.next (n := 0) (Agree.drop (a := a) (h.le ha)) c
theorem Agree.tw {P : UInt8 → Bool} : ∀ {l l2 : List UInt8}, Agree (l.takeWhile P).length l l2 → l2.takeWhile P = l.takeWhile P
  | [], l2, h => by
    unfold Agree at h
    cases l2 with
    | nil => rfl
    | cons b l2 => simp at h
  | b :: l, [], h => by
    unfold Agree at h
    simp at h
  | b :: l, d :: l2, h => by
    have h0 : d = b := by
      have := h.le (Nat.zero_le _)
      unfold Agree at this
      simpa using this
    subst h0
    by_cases hb : P d = true
    · have h1 : Agree (l.takeWhile P).length l l2 := by
        have h2 : Agree (1 + (l.takeWhile P).length) (d :: l) (d :: l2) := h.le (by simp [hb]; omega)
        exact h2.drop
      rw [List.takeWhile_cons_of_pos hb, List.takeWhile_cons_of_pos hb, h1.tw]
    · rw [List.takeWhile_cons_of_neg hb, List.takeWhile_cons_of_neg hb]
theorem labelL_loc {l l2 : List UInt8} (h : Agree (labelL l).2 l l2) : labelL l2 = labelL l := by
  have : l2.takeWhile labB = l.takeWhile labB := Agree.tw h
  unfold labelL
  rw [this]
theorem atomL_loc {l l2 : List UInt8} (h : Agree (atomL l).2 l l2) : atomL l2 = atomL l := by
  have : l2.takeWhile atomB = l.takeWhile atomB := Agree.tw h
  unfold atomL
  rw [this]
theorem listL_loc {part : List UInt8 → Bool × Nat} {c : UInt8} (hpart : ∀ {l l2 : List UInt8}, Agree (part l).2 l l2 → part l2 = part l) : ∀ (n : Nat) {l l2 : List UInt8}, l.length < n → Agree (listL part c l).2 l l2 → listL part c l2 = listL part c l
  | 0, _, _, h, _ => absurd h (Nat.not_lt_zero _)
  | n + 1, l, l2, h, ha => by
    have hle : (part l).2 ≤ (listL part c l).2 := by
      rw [listL_eq]
      by_cases h1 : (part l).1 = true
      · rw [if_pos h1]
        by_cases h2 : nextIs c (l.drop (part l).2) = true
        · rw [if_pos h2]; show _ ≤ _ + 1 + _; omega
        · rw [if_neg h2]; exact Nat.le_refl _
      · rw [if_neg h1]; exact Nat.le_refl _
    have hp := hpart (ha.le hle)
    have hn := ha.nextAt hle c
    rw [listL_eq part c l2, hp, hn]
    rw [listL_eq part c l] at ha ⊢
    by_cases h1 : (part l).1 = true
    · rw [if_pos h1] at ha ⊢
      rw [if_pos h1]
      by_cases h2 : nextIs c (l.drop (part l).2) = true
      · have h3 := nextIs_drop h2
        rw [if_pos h2] at ha ⊢
        rw [if_pos h2, listL_loc hpart n (by rw [List.length_drop]; omega) (Agree.drop ha)]
      · rw [if_neg h2, if_neg h2]
    · rw [if_neg h1, if_neg h1]
theorem domL_loc {l l2 : List UInt8} (h : Agree (domL l).2.2 l l2) : domL l2 = domL l := by
  have h1 : listL labelL 46 l2 = listL labelL 46 l := listL_loc labelL_loc _ (Nat.lt_succ_self _) h
  have h2 : l2.take (listL labelL 46 l).2 = l.take (listL labelL 46 l).2 := h.take (Nat.le_succ _)
  unfold domL
  rw [h1, h2]
theorem quotL_loc : ∀ (n : Nat) (l l2 acc : List UInt8), l.length < n → Agree (quotL l acc).2.2 l l2 → quotL l2 acc = quotL l acc
  | 0, _, _, _, h, _ => absurd h (Nat.not_lt_zero _)
  | n + 1, l, l2, acc, h, ha => by
    cases l with
    | nil =>
      cases l2 with
      | nil => rfl
      | cons b l2 => unfold Agree at ha; simp at ha
    | cons b l =>
      cases l2 with
      | nil => unfold Agree at ha; simp at ha
      | cons d l2 =>
        have h0 : d = b := by
          have := ha.le (Nat.zero_le _)
          unfold Agree at this
          simpa using this
        subst h0
        unfold quotL at ha ⊢
        by_cases hq : d = 34
        · rw [if_pos hq, if_pos hq]
        · rw [if_neg hq] at ha ⊢
          rw [if_neg hq]
          by_cases hb : d = 92
          · rw [if_pos hb] at ha ⊢
            rw [if_pos hb]
            cases l with
            | nil =>
              cases l2 with
              | nil => rfl
              | cons e l2 => unfold Agree at ha; simp at ha
            | cons c l =>
              cases l2 with
              | nil =>
                have := ha.le (m := 1) (by
                  by_cases hc : c < 32 ∨ 126 < c
                  · simp only [if_pos hc]; omega
                  · simp only [if_neg hc]; omega)
                unfold Agree at this
                simp at this
              | cons e l2 =>
                have h1 : e = c := by
                  have := ha.le (m := 1) (by
                    by_cases hc : c < 32 ∨ 126 < c
                    · simp only [if_pos hc]; omega
                    · simp only [if_neg hc]; omega)
                  unfold Agree at this
                  simpa using this
                subst h1
                by_cases hc : e < 32 ∨ 126 < e
                · simp only [if_pos hc]
                · simp only [if_neg hc] at ha ⊢
                  have h2 : Agree (quotL l (acc ++ [e])).2.2 l l2 := by
                    have h3 : Agree (2 + (quotL l (acc ++ [e])).2.2) (d :: e :: l) (d :: e :: l2) := ha.le (by omega)
                    exact h3.drop
                  rw [quotL_loc n l l2 (acc ++ [e]) (by simp at h; omega) h2]
          · rw [if_neg hb] at ha ⊢
            rw [if_neg hb]
            by_cases hc : d < 32 ∨ 126 < d
            · rw [if_pos hc, if_pos hc]
            · rw [if_neg hc] at ha ⊢
              rw [if_neg hc]
              have h2 : Agree (quotL l (acc ++ [d])).2.2 l l2 := by
                have h3 : Agree (1 + (quotL l (acc ++ [d])).2.2) (d :: l) (d :: l2) := ha.le (by dsimp only; omega)
                exact h3.drop
              rw [quotL_loc n l l2 (acc ++ [d]) (by simp at h; omega) h2]
theorem localL_loc {l l2 : List UInt8} (h : Agree (localL l).2.2 l l2) : localL l2 = localL l := by
  unfold localL at h ⊢
  rw [h.next 34]
  by_cases hq : nextIs 34 l = true
  · rw [if_pos hq] at h ⊢
    rw [if_pos hq, quotL_loc _ (l.drop 1) (l2.drop 1) [] (Nat.lt_succ_self _) (Agree.drop h)]
  · rw [if_neg hq] at h ⊢
    rw [if_neg hq, listL_loc (c := 46) atomL_loc _ (Nat.lt_succ_self _) h, h.take (Nat.le_succ _)]
theorem boxL_loc {l l2 : List UInt8} (h : Agree (boxL l).2.2.2.2 l l2) : boxL l2 = boxL l := by
  have hlo : (localL l).2.2 ≤ (boxL l).2.2.2.2 := by
    unfold boxL
    split
    · split
      · split
        · split
          · dsimp only; omega
          · dsimp only; omega
        · dsimp only; omega
      · exact Nat.le_refl _
    · exact Nat.le_refl _
  have e1 := localL_loc (h.le hlo)
  have e2 := h.nextAt hlo 64
  unfold boxL at h ⊢
  rw [e1, e2]
  by_cases h1 : (localL l).1 = true
  · rw [if_pos h1] at h ⊢
    rw [if_pos h1]
    by_cases h2 : nextIs 64 (l.drop (localL l).2.2) = true
    · rw [if_pos h2] at h ⊢
      rw [if_pos h2]
      have e3 := h.nextAt (a := (localL l).2.2 + 1) (by
        split
        · split
          · dsimp only; omega
          · dsimp only; omega
        · dsimp only; omega) 91
      rw [e3]
      by_cases h3 : nextIs 91 (l.drop ((localL l).2.2 + 1)) = true
      · rw [if_pos h3] at h ⊢
        rw [if_pos h3]
        have hw : Agree (((l.drop ((localL l).2.2 + 2)).takeWhile wordB).length) (l.drop ((localL l).2.2 + 2)) (l2.drop ((localL l).2.2 + 2)) := by
          refine Agree.drop (h.le ?_)
          split
          · dsimp only; omega
          · dsimp only; omega
        rw [hw.tw, h.nextAt (a := (localL l).2.2 + 2 + ((l.drop ((localL l).2.2 + 2)).takeWhile wordB).length) (by
          split
          · dsimp only; omega
          · dsimp only; omega) 93]
      · rw [if_neg h3] at h ⊢
        rw [if_neg h3, domL_loc (Agree.drop h)]
    · rw [if_neg h2, if_neg h2]
  · rw [if_neg h1, if_neg h1]
theorem in1L_loc {l l2 : List UInt8} (h : Agree (in1L l).2.2 l l2) : in1L l2 = in1L l := by
  unfold in1L at h ⊢
  rw [h.next 64]
  by_cases hq : nextIs 64 l = true
  · rw [if_pos hq] at h ⊢
    rw [if_pos hq, domL_loc (Agree.drop h)]
  · rw [if_neg hq] at h ⊢
    rw [if_neg hq, domL_loc h]
theorem routeL_loc : ∀ (n : Nat) {l l2 : List UInt8}, l.length < n → Agree (routeL l).2.2 l l2 → routeL l2 = routeL l
  | 0, _, _, h, _ => absurd h (Nat.not_lt_zero _)
  | n + 1, l, l2, h, ha => by
    have hle : (in1L l).2.2 ≤ (routeL l).2.2 := by
      rw [routeL_eq]
      by_cases h1 : (in1L l).1 = true
      · rw [if_pos h1]
        by_cases h2 : nextIs 44 (l.drop (in1L l).2.2) = true
        · rw [if_pos h2]; show _ ≤ _ + 1 + _; omega
        · rw [if_neg h2]; exact Nat.le_refl _
      · rw [if_neg h1]; exact Nat.le_refl _
    have hp := in1L_loc (ha.le hle)
    have hn := ha.nextAt hle 44
    rw [routeL_eq l2, hp, hn]
    rw [routeL_eq l] at ha ⊢
    by_cases h1 : (in1L l).1 = true
    · rw [if_pos h1] at ha ⊢
      rw [if_pos h1]
      by_cases h2 : nextIs 44 (l.drop (in1L l).2.2) = true
      · have h3 := nextIs_drop h2
        rw [if_pos h2] at ha ⊢
        rw [if_pos h2, routeL_loc n (by rw [List.length_drop]; omega) (Agree.drop ha)]
      · rw [if_neg h2, if_neg h2]
    · rw [if_neg h1, if_neg h1]
end Go.Proofs.YtokpnfljjjjikaaDoor.PathL
