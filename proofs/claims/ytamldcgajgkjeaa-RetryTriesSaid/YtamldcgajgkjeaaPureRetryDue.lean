import Derived.Test.YtamldcgajgkjeaaQRetryx10
/- The pure statement of RetryDue: when a recipient is due again. -/
namespace Go.Proofs.Ytamldcgajgkjeaa.Pure
open Go.RowKit Go.Proofs.Ytamldcgajgkjeaa.QRetry Go.Proofs.YtamldcgajgkjeaaW.PrintWords Go.Proofs.YtamldcgajgkjeaaW.PrintLast Go.Proofs.YtamldcgajgkjeaaW.PrintMore

theorem tick_eq (a b : Int) : retry_tick.f a b = some (decide (b ≤ a ∧ a ≤ 1099511627776)) := by
  unfold retry_tick.f
  by_cases h : a ≥ b
  · rw [if_pos h]; congr 1; by_cases h2 : a ≤ 1099511627776 <;> simp [h2] <;> omega
  · rw [if_neg h]; congr 1; symm; rw [decide_eq_false_iff_not]; omega

def good (x : Int) : Prop := 1 ≤ x ∧ x ≤ 1099511627776
instance (x : Int) : Decidable (good x) := by unfold good; infer_instance

theorem right1_eq (a : Int) : retry_Right_1.f a = some (!decide (good a)) := by
  unfold retry_Right_1.f; rw [tick_eq]; rfl

theorem idx (l : List Int) (hm : l.length ≤ 9223372036854775807) : ∀ (d k n : Nat), n + d = l.length → d < k →
    ∃ r, slices_IndexFunc_int_int_at_retry_Right_1.l0 k l (l.length : Int) (n : Int) = some r ∧ (0 ≤ r ↔ ∃ x ∈ l.drop n, ¬ good x) := by
  intro d
  induction d with
  | zero =>
    intro k n hn hk
    obtain ⟨k, rfl⟩ : ∃ m, k = m + 1 := ⟨k - 1, by omega⟩
    refine ⟨-1, ?_, ?_⟩
    · simp only [slices_IndexFunc_int_int_at_retry_Right_1.l0]; rw [if_neg (by omega)]
    · rw [List.drop_of_length_le (by omega)]; simp
  | succ d ih =>
    intro k n hn hk
    obtain ⟨k, rfl⟩ : ∃ m, k = m + 1 := ⟨k - 1, by omega⟩
    have hlt : n < l.length := by omega
    have hrd : rd l (n : Int) = l[n] := by unfold rd; simp [List.getD_eq_getElem?_getD, List.getElem?_eq_getElem hlt]
    have hdr : l.drop n = l[n] :: l.drop (n + 1) := List.drop_eq_getElem_cons hlt
    by_cases hg : good l[n]
    · obtain ⟨r, hr, hi⟩ := ih k (n + 1) (by omega) (by omega)
      refine ⟨r, ?_, ?_⟩
      · simp only [slices_IndexFunc_int_int_at_retry_Right_1.l0]
        rw [if_pos (by omega), if_pos (by omega), if_pos (by omega), right1_eq, hrd]
        simp only [Option.bind_some, decide_eq_true hg, Bool.not_true, Bool.false_eq_true, if_false]
        rw [show wrap64 ((n : Int) + 1) = ((n + 1 : Nat) : Int) from by unfold wrap64; omega]
        exact hr
      · rw [hi, hdr]
        constructor
        · rintro ⟨x, hx, h⟩; exact ⟨x, List.mem_cons_of_mem _ hx, h⟩
        · rintro ⟨x, hx, h⟩
          rcases List.mem_cons.1 hx with rfl | hx
          · exact absurd hg h
          · exact ⟨x, hx, h⟩
    · refine ⟨(n : Int), ?_, ?_⟩
      · simp only [slices_IndexFunc_int_int_at_retry_Right_1.l0]
        rw [if_pos (by omega), if_pos (by omega), if_pos (by omega), right1_eq, hrd]
        simp [hg]
      · rw [hdr]; exact ⟨fun _ => ⟨_, List.mem_cons_self, hg⟩, fun _ => by omega⟩

/-- Waits and a life may be. -/
def Rt (l : List Int) (a : Int) : Prop := 1 ≤ l.length ∧ l.length ≤ 50 ∧ good a ∧ ∀ x ∈ l, good x
instance (l : List Int) (a : Int) : Decidable (Rt l a) := by unfold Rt; infer_instance

theorem right_eq (l : List Int) (a : Int) (k : Nat) (hk : 50 < k) : retry_Right.f k l a = some (decide (Rt l a)) := by
  unfold retry_Right.f
  by_cases h1 : 1 ≤ l.length
  · by_cases h2 : l.length ≤ 50
    · rw [if_pos (by omega), if_pos (by omega), tick_eq]
      simp only [Option.bind_some]
      by_cases h3 : good a
      · rw [if_pos (by rw [decide_eq_true_iff]; exact h3)]
        obtain ⟨r, hr, hi⟩ := idx l (by omega) l.length k 0 (by omega) (by omega)
        unfold slices_ContainsFunc_int_int_at_retry_Right_1.f slices_IndexFunc_int_int_at_retry_Right_1.f
        simp only [Int.natCast_zero] at hr
        rw [hr]
        simp only [Option.bind_some]
        congr 1
        rw [List.drop_zero] at hi
        by_cases h4 : ∀ x ∈ l, good x
        · have : ¬ (0 ≤ r) := by rw [hi]; rintro ⟨x, hx, hg⟩; exact hg (h4 x hx)
          have e1 : decide (r ≥ 0) = false := by rw [decide_eq_false_iff_not]; exact this
          rw [e1]; symm; simp only [Bool.not_false]; rw [decide_eq_true_iff]; exact ⟨h1, h2, h3, h4⟩
        · have : 0 ≤ r := by rw [hi]; simpa using h4
          have e1 : decide (r ≥ 0) = true := by rw [decide_eq_true_iff]; exact this
          rw [e1]; symm; simp only [Bool.not_true]; rw [decide_eq_false_iff_not]; exact fun h => h4 h.2.2.2
      · rw [if_neg (by rw [decide_eq_true_iff]; exact h3)]
        congr 1; symm; rw [decide_eq_false_iff_not]; exact fun h => h3 h.2.2.1
    · rw [if_pos (by omega), if_neg (by omega)]
      congr 1; symm; rw [decide_eq_false_iff_not]; exact fun h => h2 h.2.1
  · rw [if_neg (by omega)]
    congr 1; symm; rw [decide_eq_false_iff_not]; exact fun h => h1 h.1

/-- The wait behind so many tries. -/
def waitAt (l : List Int) (n : Int) : Int := rd l (mn n (l.length : Int) - 1)

theorem mn_le (a b : Int) : mn a b ≤ a ∧ mn a b ≤ b ∧ (mn a b = a ∨ mn a b = b) := by unfold mn; split <;> omega

theorem waitAt_good {l : List Int} {a : Int} (h : Rt l a) {n : Int} (_hn : 1 ≤ n) : good (waitAt l n) := by
  obtain ⟨h1, h2, _, h4⟩ := h
  have m := mn_le n (l.length : Int)
  unfold waitAt rd
  have hi : (mn n (l.length : Int) - 1).toNat < l.length := by omega
  rw [List.getD_eq_getElem?_getD, List.getElem?_eq_getElem hi]
  exact h4 _ (List.getElem_mem hi)

def dueOf (l : List Int) (n now : Int) : Int := if Rt l 1 ∧ 1 ≤ n ∧ 0 ≤ now ∧ now ≤ 1099511627776 then mn (now + waitAt l n) 1099511627776 else 0

theorem due_yes {l : List Int} {n now : Int} (hr : Rt l 1) (h1 : 1 ≤ n) (h2 : 0 ≤ now) (h3 : now ≤ 1099511627776) : dueOf l n now = mn (now + waitAt l n) 1099511627776 := by
  unfold dueOf; rw [if_pos ⟨hr, h1, h2, h3⟩]

theorem due_eq (l : List Int) (n now : Int) (k : Nat) (hk : 50 < k) : retry_Due.f k l n now = some (dueOf l n now) := by
  unfold retry_Due.f
  rw [right_eq l 1 k hk]
  simp only [Option.bind_some]
  by_cases hr : Rt l 1
  · rw [if_pos (by simpa using hr)]
    by_cases h1 : n < 1
    · rw [if_pos h1]; unfold dueOf; rw [if_neg (by omega)]
    · rw [if_neg h1, tick_eq]
      simp only [Option.bind_some]
      by_cases h2 : 0 ≤ now ∧ now ≤ 1099511627776
      · rw [if_pos (by simpa using h2), due_yes hr (by omega) h2.1 h2.2]
        have m := mn_le n (l.length : Int)
        have hw := waitAt_good hr (n := n) (by omega)
        have hl := hr.1
        have hl2 := hr.2.1
        have e1 : wrap64 (mn n (l.length : Int) - 1) = mn n (l.length : Int) - 1 := by unfold wrap64; omega
        rw [e1, if_pos (by omega), if_pos (by omega)]
        have e2 : rd l (mn n (l.length : Int) - 1) = waitAt l n := rfl
        rw [e2]
        unfold good at hw
        rw [show wrap64 (now + waitAt l n) = now + waitAt l n from by unfold wrap64; omega]
      · rw [if_neg (by simpa using h2)]; unfold dueOf; rw [if_neg (fun h => h2 h.2.2)]
  · rw [if_neg (by simpa using hr)]; unfold dueOf; rw [if_neg (fun h => hr h.1)]

theorem awake_28 (k : Nat) (hk : 60 ≤ k) : frankinglaw28_awake.f k = some true :=
  at_rounds (fun k => frankinglaw28_awake.mono k) hk (by decide +kernel : frankinglaw28_awake.f 60 = some true)

theorem waitAt_ge (l : List Int) (n m : Int) (hn : (l.length : Int) ≤ n) (hm : (l.length : Int) ≤ m) : waitAt l n = waitAt l m := by
  unfold waitAt mn
  by_cases a : (l.length : Int) < n <;> by_cases b : (l.length : Int) < m <;> simp [a, b] <;> (try congr 1) <;> (try omega)

theorem RetryDue : frankinglaw28_RetryDue.Pure := by
  intro l n now _ _ _ _ _
  refine ⟨70, ?_⟩
  unfold frankinglaw28_RetryDue.f
  rw [due_eq l n now 70 (by omega), right_eq l 1 70 (by omega)]
  simp only [Option.bind_some]
  have key : ∀ (b : Bool), (b = true → dueOf l n now = 0) → (b = false → Rt l 1 ∧ 1 ≤ n ∧ 0 ≤ now ∧ now ≤ 1099511627776) →
      frankinglaw28_RetryDue.j0 70 l n now (dueOf l n now) b = some true := by
    intro b hb1 hb2
    simp only [frankinglaw28_RetryDue.j0]
    cases b with
    | true =>
      rw [if_pos rfl, if_pos (hb1 rfl)]
      have : retry_Most.f 69 l 0 = some 0 := by
        unfold retry_Most.f
        rw [right_eq l 0 69 (by omega)]
        simp only [Option.bind_some]
        rw [if_neg (by simp [Rt, good])]
      rw [this]
      simp only [Option.bind_some, if_true]
      rw [awake_28 69 (by omega)]
      rfl
    | false =>
      obtain ⟨hr, h1, h2, h3⟩ := hb2 rfl
      rw [if_neg (by simp)]
      have m := mn_le n (l.length : Int)
      have hw1 := waitAt_good hr (n := n) h1
      have hl1 := hr.1
      have hl2 := hr.2.1
      have e1 : wrap64 (mn n (l.length : Int) - 1) = mn n (l.length : Int) - 1 := by unfold wrap64; omega
      have hd : dueOf l n now = mn (now + waitAt l n) 1099511627776 := by unfold dueOf; rw [if_pos ⟨hr, h1, h2, h3⟩]
      have md := mn_le (now + waitAt l n) 1099511627776
      unfold good at hw1
      have e2 : rd l (mn n (l.length : Int) - 1) = waitAt l n := rfl
      rw [e1, if_pos (by omega), if_pos (by omega), e2, hd]
      have e3 : wrap64 (mn (now + waitAt l n) 1099511627776 - now) = mn (now + waitAt l n) 1099511627776 - now := by unfold wrap64; omega
      rw [if_neg (by omega), if_neg (by omega), e3, if_neg (by omega)]
      have q1 : retry_Due.f 69 l (l.length : Int) now = some (mn (now + waitAt l (l.length : Int)) 1099511627776) := by
        rw [due_eq l _ now 69 (by omega)]; unfold dueOf; rw [if_pos ⟨hr, by omega, h2, h3⟩]
      have q2 : retry_Due.f 69 l 1099511627776 now = some (mn (now + waitAt l (l.length : Int)) 1099511627776) := by
        rw [due_eq l _ now 69 (by omega)]; unfold dueOf; rw [if_pos ⟨hr, by omega, h2, h3⟩, waitAt_ge l 1099511627776 (l.length : Int) (by omega) (by omega)]
      have fin : frankinglaw28_RetryDue.j1 69 l n now (mn (now + waitAt l n) 1099511627776) false = some true := by
        simp only [frankinglaw28_RetryDue.j1]
        rw [if_neg (by simp)]
        by_cases h4 : now = 1099511627776
        · rw [if_pos h4, awake_28 68 (by omega)]; rfl
        · rw [if_neg h4, show wrap64 (now + 1) = now + 1 from by unfold wrap64; omega, due_eq l n (now + 1) 68 (by omega)]
          simp only [Option.bind_some]
          have hd2 : dueOf l n (now + 1) = mn (now + 1 + waitAt l n) 1099511627776 := by unfold dueOf; rw [if_pos ⟨hr, h1, by omega, by omega⟩]
          have md2 := mn_le (now + 1 + waitAt l n) 1099511627776
          rw [hd2, if_pos (by unfold mn; split <;> split <;> omega), awake_28 68 (by omega)]; rfl
      by_cases h5 : mn (now + waitAt l n) 1099511627776 < 1099511627776
      · rw [if_pos h5, if_pos (by omega), q1, q2]
        simp only [Option.bind_some, bne_self_eq_false]
        exact fin
      · rw [if_neg h5, q1, q2]
        simp only [Option.bind_some, bne_self_eq_false]
        exact fin
  by_cases hr : Rt l 1
  · rw [if_pos (by simpa using hr)]
    by_cases h1 : n < 1
    · rw [if_pos h1]
      exact key true (fun _ => by unfold dueOf; rw [if_neg (fun h => by omega)]) (fun h => by cases h)
    · rw [if_neg h1]
      by_cases h2 : now < 0
      · rw [if_pos h2]
        exact key true (fun _ => by unfold dueOf; rw [if_neg (fun h => by omega)]) (fun h => by cases h)
      · rw [if_neg h2]
        refine key _ (fun h => ?_) (fun h => ?_)
        · unfold dueOf; rw [if_neg]; intro h6; simp at h; omega
        · simp at h; exact ⟨hr, by omega, by omega, by omega⟩
  · rw [if_neg (by simpa using hr)]
    exact key true (fun _ => by unfold dueOf; rw [if_neg (fun h => hr h.1)]) (fun h => by cases h)
end Go.Proofs.Ytamldcgajgkjeaa.Pure
