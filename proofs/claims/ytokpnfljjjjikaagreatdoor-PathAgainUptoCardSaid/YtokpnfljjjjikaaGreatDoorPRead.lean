/- What is read is right: it is what is written of it, and no longer. -/
import Derived.Test.YtokpnfljjjjikaaGreatDoorPLit
namespace Go.Proofs.YtokpnfljjjjikaaGreatDoor.PathL
open Go.RowKit Go.Proofs.YtokpnfljjjjikaaGreatDoor Go.Proofs.YtokpnfljjjjikaaGreatDoor.QPath Go.Proofs.YtokpnfljjjjikaaGreatDoorW.PrintWords Go.Proofs.YtokpnfljjjjikaaGreatDoorW.PrintMore
set_option linter.unusedVariables false
set_option linter.unusedSimpArgs false

theorem qL_append (a b : List UInt8) : qL (a ++ b) = qL a ++ qL b := List.flatMap_append
theorem qL_one (b : UInt8) : (qL [b]).length ≤ 2 := by
  show (qB b ++ []).length ≤ 2
  unfold qB
  split <;> simp
theorem qL_one' (b : UInt8) (h1 : ¬ b = 34) (h2 : ¬ b = 92) : (qL [b]).length = 1 := by
  show (qB b ++ []).length = 1
  unfold qB
  rw [if_neg (fun h => h.elim h1 h2)]
  rfl
theorem qL_ge : ∀ l : List UInt8, l.length ≤ (qL l).length
  | [] => Nat.le_refl _
  | b :: l => by
    have ih := qL_ge l
    have e : qL (b :: l) = qB b ++ qL l := rfl
    rw [e, List.length_append]
    unfold qB
    split <;> simp <;> omega
theorem quotL_longer : ∀ (n : Nat) (l acc : List UInt8), l.length < n → (quotL l acc).1 = true → ∃ x, (quotL l acc).2.1 = acc ++ x ∧ (qL x).length + 1 ≤ (quotL l acc).2.2
  | 0, _, _, h, _ => absurd h (Nat.not_lt_zero _)
  | n + 1, l, acc, h, ho => by
    cases l with
    | nil => unfold quotL at ho; cases ho
    | cons b l =>
      unfold quotL at ho ⊢
      by_cases hq : b = 34
      · rw [if_pos hq] at ho ⊢
        exact ⟨[], by simp, by simp [qL]⟩
      · rw [if_neg hq] at ho ⊢
        by_cases hb : b = 92
        · rw [if_pos hb] at ho ⊢
          cases l with
          | nil => cases ho
          | cons c l' =>
            by_cases hc : c < 32 ∨ 126 < c
            · simp only [if_pos hc] at ho
              cases ho
            · simp only [if_neg hc] at ho ⊢
              obtain ⟨x, h1, h2⟩ := quotL_longer n l' (acc ++ [c]) (by simp at h; omega) ho
              refine ⟨c :: x, by rw [h1]; simp, ?_⟩
              have e : qL (c :: x) = qL [c] ++ qL x := qL_append [c] x
              rw [e, List.length_append]
              have := qL_one c
              omega
        · rw [if_neg hb] at ho ⊢
          by_cases hc : b < 32 ∨ 126 < b
          · rw [if_pos hc] at ho
            cases ho
          · rw [if_neg hc] at ho ⊢
            obtain ⟨x, h1, h2⟩ := quotL_longer n l (acc ++ [b]) (by simp at h; omega) ho
            refine ⟨b :: x, by rw [h1]; simp, ?_⟩
            have e : qL (b :: x) = qL [b] ++ qL x := qL_append [b] x
            rw [e, List.length_append, qL_one' b hq hb]
            show _ ≤ _ + 1
            omega
theorem local_shorter (l : List UInt8) (h : (localL l).1 = true) : (wroteL (localT l)).length ≤ (localL l).2.2 := by
  unfold localL at h ⊢
  unfold localT
  by_cases hq : nextIs 34 l = true
  · rw [if_pos hq] at h ⊢
    rw [if_pos hq]
    obtain ⟨x, h1, h2⟩ := quotL_longer _ (l.drop 1) [] (Nat.lt_succ_self _) h
    rw [List.nil_append] at h1
    rw [h1]
    have h3 := qL_ge x
    unfold wroteL
    split
    · show x.length ≤ 1 + _
      omega
    · show (34 :: (qL x ++ [34])).length ≤ 1 + _
      rw [List.length_cons, List.length_append, List.length_cons, List.length_nil]
      omega
  · rw [if_neg hq] at h ⊢
    rw [if_neg hq]
    have h1 := atoms_take l h
    have hle : (listL atomL 46 l).2 ≤ l.length := listL_le atomL 46 atomL_le _ l (Nat.lt_succ_self _)
    have hp : plainL (l.take (listL atomL 46 l).2) = true := by
      unfold plainL
      rw [h1, List.length_take, Nat.min_eq_left hle]
      simp
    unfold wroteL
    rw [if_pos hp, List.length_take]
    exact Nat.min_le_left _ _
theorem box_ok (l : List UInt8) (hl : l.length < 4294967281) (h : (boxL l).1 = true) : ∃ (lo dom : List UInt8) (lit : Bool), BoxOK lo dom lit ∧ (boxL l).2.1 = mkText lo ∧ (boxL l).2.2.1 = mkText dom ∧ (boxL l).2.2.2.1 = lit ∧ (wboxL lo dom lit).length ≤ (boxL l).2.2.2.2 ∧ dom ≠ [] ∧ (lit = true → dom.length ≤ 255) := by
  have hlo : (localL l).1 = true := by
    unfold boxL at h
    by_cases h1 : (localL l).1 = true
    · exact h1
    · rw [if_neg h1] at h
      cases h
  have hs := local_shorter l hlo
  unfold boxL at h ⊢
  rw [if_pos hlo] at h ⊢
  by_cases h2 : nextIs 64 (l.drop (localL l).2.2) = true
  · rw [if_pos h2] at h ⊢
    by_cases h3 : nextIs 91 (l.drop ((localL l).2.2 + 1)) = true
    · rw [if_pos h3] at h ⊢
      generalize hw : (l.drop ((localL l).2.2 + 2)).takeWhile wordB = w at h ⊢
      have hwl : w.length ≤ l.length := by
        rw [← hw]
        refine Nat.le_trans (takeWhile_le _ _) ?_
        rw [List.length_drop]; omega
      by_cases h4 : nextIs 93 (l.drop ((localL l).2.2 + 2 + w.length)) = true
      · rw [if_pos h4] at h ⊢
        simp only at h
        rw [litB_mk w (by omega)] at h
        have hg := lit_good _ h
        refine ⟨localT l, w.map lowB, true, ⟨localT_fine l, fun e => (by cases e), fun _ => ⟨?_, ?_, map_low_low w⟩⟩, localL_text l, small_mk w, rfl, ?_, ?_, fun _ => by rw [List.length_map]; exact hg.2⟩
        · rw [litB_mk _ (by rw [List.length_map]; omega), litL_low]
          exact h
        · intro b hb
          obtain ⟨c, hc, rfl⟩ := List.mem_map.mp hb
          rw [low_wordB]
          exact hg.1 c hc
        · unfold wboxL
          rw [if_pos rfl, List.length_append]
          simp
          omega
        · intro e
          have e2 : w = [] := List.map_eq_nil_iff.mp e
          rw [e2] at h
          exact absurd h (by decide +kernel)
      · rw [if_neg h4] at h
        cases h
    · rw [if_neg h3] at h ⊢
      have hd := domT_ok _ h
      refine ⟨localT l, domT (l.drop ((localL l).2.2 + 1)), false, ⟨localT_fine l, fun _ => hd, fun e => (by cases e)⟩, localL_text l, domL_text _, rfl, ?_, ?_, fun e => (by cases e)⟩
      · unfold wboxL
        rw [if_neg (by decide), List.length_append, List.length_cons, domT_length]
        show _ ≤ (localL l).2.2 + 1 + _
        omega
      · obtain ⟨b, d', e, _⟩ := hd.head
        rw [e]
        simp
  · rw [if_neg h2] at h
    cases h
theorem route_ok : ∀ (n : Nat) (l : List UInt8), l.length < n → (routeL l).1 = true → ∃ ds : List (List UInt8), ds ≠ [] ∧ (∀ d, d ∈ ds → DomOK d) ∧ (routeL l).2.1 = ds.map mkText ∧ (wroute ds).length ≤ (routeL l).2.2
  | 0, _, h, _ => absurd h (Nat.not_lt_zero _)
  | n + 1, l, h, ho => by
    rw [routeL_eq] at ho ⊢
    by_cases h1 : (in1L l).1 = true
    · rw [if_pos h1] at ho ⊢
      have h64 : nextIs 64 l = true := by
        unfold in1L at h1
        by_cases h64 : nextIs 64 l = true
        · exact h64
        · rw [if_neg h64] at h1
          cases h1
      have e : in1L l = ((domL (l.drop 1)).1, (domL (l.drop 1)).2.1, 1 + (domL (l.drop 1)).2.2) := by
        unfold in1L
        rw [if_pos h64]
      have hd1 : (domL (l.drop 1)).1 = true := by rw [e] at h1; exact h1
      have hd := domT_ok _ hd1
      by_cases h2 : nextIs 44 (l.drop (in1L l).2.2) = true
      · have h3 := nextIs_drop h2
        rw [if_pos h2] at ho ⊢
        obtain ⟨ds, h4, h5, h6, h7⟩ := route_ok n (l.drop ((in1L l).2.2 + 1)) (by rw [List.length_drop]; omega) ho
        refine ⟨domT (l.drop 1) :: ds, by simp, fun d hd' => ?_, ?_, ?_⟩
        · rcases List.mem_cons.mp hd' with rfl | hd'
          · exact hd
          · exact h5 d hd'
        · show (in1L l).2.1 :: _ = _
          rw [h6, e, List.map_cons]
          show (domL (l.drop 1)).2.1 :: _ = _
          rw [domL_text]
        · obtain ⟨d2, ds', rfl⟩ : ∃ d2 ds', ds = d2 :: ds' := by
            cases ds with
            | nil => exact absurd rfl h4
            | cons d2 ds' => exact ⟨d2, ds', rfl⟩
          show (64 :: (domT (l.drop 1) ++ 44 :: wroute (d2 :: ds'))).length ≤ (in1L l).2.2 + 1 + _
          rw [List.length_cons, List.length_append, List.length_cons, domT_length, e]
          simp only
          rw [e] at h7
          simp only at h7
          omega
      · rw [if_neg h2] at ho ⊢
        refine ⟨[domT (l.drop 1)], by simp, fun d hd' => ?_, ?_, ?_⟩
        · rw [List.mem_singleton.mp hd']
          exact hd
        · rw [e]
          show [(domL (l.drop 1)).2.1] = [mkText _]
          rw [domL_text]
        · show (64 :: domT (l.drop 1)).length ≤ _
          rw [List.length_cons, domT_length, e]
          simp only
          omega
    · rw [if_neg h1] at ho
      cases ho
theorem inner_ok (l : List UInt8) (hl : l.length < 4294967281) (h0 : isAloneL l = false) (h : (innerL l).1 = true) : ∃ (ds : List (List UInt8)) (lo dom : List UInt8) (lit : Bool), (∀ d, d ∈ ds → DomOK d) ∧ BoxOK lo dom lit ∧ innerL l = (true, ds.map mkText, mkText lo, mkText dom, lit, (innerL l).2.2.2.2.2) ∧ (wpathL ds lo dom lit).length ≤ (innerL l).2.2.2.2.2 ∧ dom ≠ [] ∧ (lit = true → dom.length ≤ 255) := by
  unfold innerL at h ⊢
  rw [if_neg (by rw [h0]; decide)] at h ⊢
  by_cases h1 : nextIs 64 l = true
  · rw [if_pos h1] at h ⊢
    by_cases h2 : (routeL l).1 = true
    · rw [if_pos h2] at h ⊢
      obtain ⟨ds, r1, r2, r3, r4⟩ := route_ok _ l (Nat.lt_succ_self _) h2
      by_cases h3 : nextIs 58 (l.drop (routeL l).2.2) = true
      · rw [if_pos h3] at h ⊢
        obtain ⟨lo, dom, lit, b1, b2, b3, b4, b5, b6, b7⟩ := box_ok (l.drop ((routeL l).2.2 + 1)) (by rw [List.length_drop]; omega) h
        refine ⟨ds, lo, dom, lit, r2, b1, ?_, ?_, b6, b7⟩
        · rw [r3, b2, b3, b4]
          rw [show (boxL (l.drop ((routeL l).2.2 + 1))).1 = true from h]
        · cases ds with
          | nil => exact absurd rfl r1
          | cons d ds =>
            show (wroute (d :: ds) ++ 58 :: wboxL lo dom lit).length ≤ (routeL l).2.2 + 1 + _
            rw [List.length_append, List.length_cons]
            omega
      · rw [if_neg h3] at h
        cases h
    · rw [if_neg h2] at h
      cases h
  · rw [if_neg h1] at h ⊢
    obtain ⟨lo, dom, lit, b1, b2, b3, b4, b5, b6, b7⟩ := box_ok l hl h
    refine ⟨[], lo, dom, lit, fun d hd => (by cases hd), b1, ?_, b5, b6, b7⟩
    rw [b2, b3, b4]
    rw [show (boxL l).1 = true from h]
    rfl
end Go.Proofs.YtokpnfljjjjikaaGreatDoor.PathL
