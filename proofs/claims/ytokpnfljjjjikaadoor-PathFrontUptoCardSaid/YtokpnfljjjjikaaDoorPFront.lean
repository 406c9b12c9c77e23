/- Parse over lists; no path begins another. -/
import Derived.Test.YtokpnfljjjjikaaDoorPLoc
namespace Go.Proofs.YtokpnfljjjjikaaDoor.PathL
open Go.RowKit Go.Proofs.YtokpnfljjjjikaaDoor Go.Proofs.YtokpnfljjjjikaaDoor.QPath Go.Proofs.YtokpnfljjjjikaaDoorW.PrintWords Go.Proofs.YtokpnfljjjjikaaDoorW.PrintMore

theorem small_size (x : ByteArray) : (path_small.g x).size = x.size := by
  unfold path_small.g
  rw [strOfNums_size, List.length_map, bytesOf_length]
theorem domL_size (l : List UInt8) : (domL l).2.1.size ≤ l.length := by
  unfold domL
  show (path_small.g _).size ≤ _
  rw [small_size, mkText_size, List.length_take]
  omega
theorem boxL_size (l : List UInt8) : (boxL l).2.2.1.size ≤ l.length := by
  have hw := takeWhile_le wordB (l.drop ((localL l).2.2 + 2))
  have hd := domL_size (l.drop ((localL l).2.2 + 1))
  rw [List.length_drop] at hw hd
  have hs : (path_small.g (mkText ((l.drop ((localL l).2.2 + 2)).takeWhile wordB))).size ≤ l.length := by
    rw [small_size, mkText_size]
    omega
  unfold boxL
  split
  · split
    · split
      · split
        · exact hs
        · exact hs
      · exact Nat.le_trans hd (by omega)
    · exact Nat.zero_le _
  · exact Nat.zero_le _
theorem in1L_size (l : List UInt8) : (in1L l).2.1.size ≤ l.length := by
  unfold in1L
  split
  · exact Nat.le_trans (domL_size _) (by rw [List.length_drop]; omega)
  · exact domL_size l
theorem routeL_size : ∀ (n : Nat) (l : List UInt8), l.length < n → (routeL l).2.1.length ≤ l.length + 1 ∧ ∀ y, y ∈ (routeL l).2.1 → y.size ≤ l.length
  | 0, _, h => absurd h (Nat.not_lt_zero _)
  | n + 1, l, h => by
    have hi := in1L_size l
    have h1 : ∀ y, y ∈ [(in1L l).2.1] → y.size ≤ l.length := by
      intro y hy
      rw [List.mem_singleton.mp hy]
      exact hi
    rw [routeL_eq]
    split
    · split
      · rename_i h2
        have h3 := nextIs_drop h2
        obtain ⟨h4, h5⟩ := routeL_size n (l.drop ((in1L l).2.2 + 1)) (by rw [List.length_drop]; omega)
        rw [List.length_drop] at h4 h5
        refine ⟨?_, ?_⟩
        · show ((in1L l).2.1 :: _).length ≤ _
          rw [List.length_cons]
          omega
        · intro y hy
          rcases List.mem_cons.mp hy with rfl | hy
          · exact hi
          · exact Nat.le_trans (h5 y hy) (by omega)
      · exact ⟨by simp, h1⟩
    · exact ⟨by simp, h1⟩
theorem innerL_size (l : List UInt8) : (innerL l).2.1.length ≤ l.length + 1 ∧ (∀ y, y ∈ (innerL l).2.1 → y.size ≤ l.length) ∧ (innerL l).2.2.2.1.size ≤ l.length := by
  have hr := routeL_size _ l (Nat.lt_succ_self _)
  have hb := boxL_size l
  have hb2 := boxL_size (l.drop ((routeL l).2.2 + 1))
  rw [List.length_drop] at hb2
  have hn : ([] : List ByteArray).length ≤ l.length + 1 ∧ ∀ y, y ∈ ([] : List ByteArray) → y.size ≤ l.length := ⟨Nat.zero_le _, fun _ h => by cases h⟩
  unfold innerL
  split
  · exact ⟨hn.1, hn.2, Nat.zero_le _⟩
  · split
    · split
      · split
        · exact ⟨hr.1, hr.2, Nat.le_trans hb2 (by omega)⟩
        · exact ⟨hn.1, hn.2, Nat.zero_le _⟩
      · exact ⟨hn.1, hn.2, Nat.zero_le _⟩
    · exact ⟨hn.1, hn.2, hb⟩
theorem innerL_le (l : List UInt8) (h : (innerL l).1 = true) : (innerL l).2.2.2.2.2 ≤ l.length := by
  have hr := routeL_le _ l (Nat.lt_succ_self _)
  unfold innerL at h ⊢
  by_cases h0 : isAloneL l = true
  · rw [if_pos h0]
    have h1 : 10 < l.length := by
      unfold isAloneL at h0
      simp only [Bool.and_eq_true, decide_eq_true_eq] at h0
      exact h0.1.1
    show 10 ≤ _
    omega
  · rw [if_neg h0] at h ⊢
    by_cases h1 : nextIs 64 l = true
    · rw [if_pos h1] at h ⊢
      by_cases h2 : (routeL l).1 = true
      · rw [if_pos h2] at h ⊢
        by_cases h3 : nextIs 58 (l.drop (routeL l).2.2) = true
        · have h3' := nextIs_drop h3
          rw [if_pos h3] at h ⊢
          have := boxL_le _ h
          rw [List.length_drop] at this
          show (routeL l).2.2 + 1 + _ ≤ _
          omega
        · rw [if_neg h3] at h
          cases h
      · rw [if_neg h2] at h
        cases h
    · rw [if_neg h1] at h ⊢
      exact boxL_le _ h
/-- Not the local part alone: the rest is told by what is taken. -/
theorem innerL_loc {l l2 : List UInt8} (ha : isAloneL l2 = isAloneL l) (h : Agree (innerL l).2.2.2.2.2 l l2) : innerL l2 = innerL l := by
  unfold innerL at h ⊢
  rw [ha]
  by_cases h0 : isAloneL l = true
  · rw [if_pos h0, if_pos h0]
  · rw [if_neg h0] at h ⊢
    rw [if_neg h0, h.next 64]
    by_cases h1 : nextIs 64 l = true
    · rw [if_pos h1] at h ⊢
      rw [if_pos h1]
      have hle : (routeL l).2.2 ≤ (if (routeL l).1 = true then (if nextIs 58 (l.drop (routeL l).2.2) = true then ((boxL (l.drop ((routeL l).2.2 + 1))).1, (routeL l).2.1, (boxL (l.drop ((routeL l).2.2 + 1))).2.1, (boxL (l.drop ((routeL l).2.2 + 1))).2.2.1, (boxL (l.drop ((routeL l).2.2 + 1))).2.2.2.1, (routeL l).2.2 + 1 + (boxL (l.drop ((routeL l).2.2 + 1))).2.2.2.2) else (false, [], ⟨#[]⟩, ⟨#[]⟩, false, (routeL l).2.2)) else (false, ([] : List ByteArray), (⟨#[]⟩ : ByteArray), (⟨#[]⟩ : ByteArray), false, (routeL l).2.2)).2.2.2.2.2 := by
        split
        · split
          · dsimp only; omega
          · exact Nat.le_refl _
        · exact Nat.le_refl _
      have e1 := routeL_loc _ (Nat.lt_succ_self _) (h.le hle)
      have e2 := h.nextAt hle 58
      rw [e1, e2]
      by_cases h2 : (routeL l).1 = true
      · rw [if_pos h2] at h ⊢
        rw [if_pos h2]
        by_cases h3 : nextIs 58 (l.drop (routeL l).2.2) = true
        · rw [if_pos h3] at h ⊢
          rw [if_pos h3, boxL_loc (Agree.drop h)]
        · rw [if_neg h3, if_neg h3]
      · rw [if_neg h2, if_neg h2]
    · rw [if_neg h1] at h ⊢
      rw [if_neg h1, boxL_loc h]
/-- <> -/
def nullL (l : List UInt8) : Bool := nextIs 60 l && nextIs 62 (l.drop 1)
def synL (l : List UInt8) : Bool := nextIs 60 l && (innerL (l.drop 1)).1 && nextIs 62 (l.drop (1 + (innerL (l.drop 1)).2.2.2.2.2))
/-- How much a path takes that begins a text. -/
def takesL (l : List UInt8) (n : Nat) : Prop := (nullL l = true ∧ n = 2) ∨ (nullL l = false ∧ synL l = true ∧ n = 2 + (innerL (l.drop 1)).2.2.2.2.2)
theorem takesL_le {l : List UInt8} {n : Nat} (h : takesL l n) : 2 ≤ n ∧ n ≤ l.length := by
  rcases h with ⟨h, rfl⟩ | ⟨_, h, rfl⟩
  · unfold nullL at h
    simp only [Bool.and_eq_true] at h
    have := nextIs_drop h.2
    omega
  · unfold synL at h
    simp only [Bool.and_eq_true] at h
    have := nextIs_drop h.2
    omega
/-- The byte that ends it. -/
theorem takesL_last {l : List UInt8} {n : Nat} (h : takesL l n) : nextIs 62 (l.drop (n - 1)) = true := by
  rcases h with ⟨h, rfl⟩ | ⟨_, h, rfl⟩
  · unfold nullL at h
    simp only [Bool.and_eq_true] at h
    exact h.2
  · unfold synL at h
    simp only [Bool.and_eq_true] at h
    rw [show 2 + (innerL (l.drop 1)).2.2.2.2.2 - 1 = 1 + (innerL (l.drop 1)).2.2.2.2.2 from by omega]
    exact h.2
theorem agree_of_take {l l2 : List UInt8} {n : Nat} (h : l2.take n = l.take n) (hn : 0 < n) : Agree (n - 1) l l2 := by
  unfold Agree
  rw [show n - 1 + 1 = n from by omega]
  exact h
/-- Bytes that a small text has are no >. -/
theorem alone_no {l : List UInt8} (h : isAloneL l = true) (i : Nat) (hi : i < 10) : nextIs 62 (l.drop i) = false := by
  unfold isAloneL at h
  simp only [Bool.and_eq_true, decide_eq_true_eq, beq_iff_eq] at h
  obtain ⟨⟨h1, h2⟩, _⟩ := h
  rcases l with _ | ⟨a0, _ | ⟨a1, _ | ⟨a2, _ | ⟨a3, _ | ⟨a4, _ | ⟨a5, _ | ⟨a6, _ | ⟨a7, _ | ⟨a8, _ | ⟨a9, l⟩⟩⟩⟩⟩⟩⟩⟩⟩⟩
  all_goals try (simp at h1; done)
  have e : (path_small.g (mkText [a0, a1, a2, a3, a4, a5, a6, a7, a8, a9])).toList = [a0, a1, a2, a3, a4, a5, a6, a7, a8, a9].map (fun b => UInt8.ofNat (lowI (b.toNat : Int)).toNat) := by
    rw [ByteArray.toList_eq]
    unfold path_small.g
    rw [strOfNums_data]
    rfl
  have h3 : [a0, a1, a2, a3, a4, a5, a6, a7, a8, a9].map (fun b => UInt8.ofNat (lowI (b.toNat : Int)).toNat) = [112, 111, 115, 116, 109, 97, 115, 116, 101, 114] := e.symm.trans h2
  have hno : ∀ (b c : UInt8), UInt8.ofNat (lowI (b.toNat : Int)).toNat = c → c ≠ 62 → (b == 62) = false := by
    intro b c hb hc
    rw [beq_eq_false_iff_ne]
    rintro rfl
    exact hc hb.symm
  simp only [List.map_cons, List.map_nil, List.cons.injEq, and_true] at h3
  obtain ⟨g0, g1, g2, g3, g4, g5, g6, g7, g8, g9⟩ := h3
  have : i = 0 ∨ i = 1 ∨ i = 2 ∨ i = 3 ∨ i = 4 ∨ i = 5 ∨ i = 6 ∨ i = 7 ∨ i = 8 ∨ i = 9 := by omega
  rcases this with rfl | rfl | rfl | rfl | rfl | rfl | rfl | rfl | rfl | rfl
  · exact hno _ _ g0 (by decide)
  · exact hno _ _ g1 (by decide)
  · exact hno _ _ g2 (by decide)
  · exact hno _ _ g3 (by decide)
  · exact hno _ _ g4 (by decide)
  · exact hno _ _ g5 (by decide)
  · exact hno _ _ g6 (by decide)
  · exact hno _ _ g7 (by decide)
  · exact hno _ _ g8 (by decide)
  · exact hno _ _ g9 (by decide)
theorem isAloneL_agree {l l2 : List UInt8} (h : Agree 10 l l2) (h0 : isAloneL l = true) : isAloneL l2 = true := by
  have hl : 10 < l.length := by
    unfold isAloneL at h0
    simp only [Bool.and_eq_true, decide_eq_true_eq] at h0
    exact h0.1.1
  have hl2 : 10 < l2.length := by
    have := congrArg List.length h
    rw [List.length_take, List.length_take] at this
    omega
  unfold isAloneL at h0 ⊢
  rw [decide_eq_true hl2, h.take (by omega : 10 ≤ 10 + 1), h.nextAt (Nat.le_refl 10) 62]
  rw [decide_eq_true hl] at h0
  exact h0
/-- What begins a text as a path begins each text so that begins with it. -/
theorem front {l l2 : List UInt8} {n : Nat} (h : takesL l n) (ht : l2.take n = l.take n) : takesL l2 n ∧ nullL l2 = nullL l ∧ (nullL l = false → innerL (l2.drop 1) = innerL (l.drop 1)) := by
  obtain ⟨hn, hle⟩ := takesL_le h
  have hag := agree_of_take ht (by omega)
  have e0 := hag.next 60
  have e1 := hag.nextAt (a := 1) (by omega) 62
  have en : nullL l2 = nullL l := by unfold nullL; rw [e0, e1]
  have hlast := takesL_last h
  rcases h with ⟨h, rfl⟩ | ⟨h, hs, rfl⟩
  · exact ⟨.inl ⟨en.trans h, rfl⟩, en, fun h' => by rw [h] at h'; cases h'⟩
  · have hag1 : Agree (innerL (l.drop 1)).2.2.2.2.2 (l.drop 1) (l2.drop 1) := by
      refine Agree.drop (a := 1) ?_
      exact hag.le (by omega)
    have ha : isAloneL (l2.drop 1) = isAloneL (l.drop 1) := by
      cases hal : isAloneL (l.drop 1) with
      | true =>
        have : (innerL (l.drop 1)).2.2.2.2.2 = 10 := by unfold innerL; rw [if_pos hal]
        rw [this] at hag1
        exact isAloneL_agree hag1 hal
      | false =>
        cases hal2 : isAloneL (l2.drop 1) with
        | false => rfl
        | true =>
          have hL2 : nextIs 62 (l2.drop (2 + (innerL (l.drop 1)).2.2.2.2.2 - 1)) = true := (hag.nextAt (Nat.le_refl _) 62).trans hlast
          rcases Nat.lt_or_ge (innerL (l.drop 1)).2.2.2.2.2 10 with h10 | h10
          · have := alone_no hal2 _ h10
            rw [List.drop_drop] at this
            rw [show 2 + (innerL (l.drop 1)).2.2.2.2.2 - 1 = 1 + (innerL (l.drop 1)).2.2.2.2.2 from by omega] at hL2
            rw [hL2] at this
            cases this
          · have h2 : Agree 10 (l2.drop 1) (l.drop 1) := (hag1.le h10).symm
            rw [isAloneL_agree h2 hal2] at hal
            cases hal
    have ei := innerL_loc ha hag1
    refine ⟨.inr ⟨en.trans h, ?_, by rw [ei]⟩, en, fun _ => ei⟩
    unfold synL at hs ⊢
    rw [ei, e0, hag.nextAt (by omega) 62]
    exact hs
theorem takesL_one {l : List UInt8} {n m : Nat} (h : takesL l n) (h2 : takesL l m) : n = m := by
  rcases h with ⟨h, rfl⟩ | ⟨h, _, rfl⟩ <;> rcases h2 with ⟨h2, rfl⟩ | ⟨h2, _, rfl⟩
  · rfl
  · rw [h] at h2; cases h2
  · rw [h] at h2; cases h2
  · rfl
/-- What is cut off begins no path. -/
theorem cut_none {l : List UInt8} {n m k : Nat} (h : takesL l n) (hm : m < n) (h2 : takesL (l.take m) k) : False := by
  obtain ⟨_, hk⟩ := takesL_le h2
  rw [List.length_take] at hk
  have := (front (l2 := l) h2 (by rw [List.take_take, Nat.min_eq_left (by omega)])).1
  have := takesL_one h this
  omega
end Go.Proofs.YtokpnfljjjjikaaDoor.PathL
