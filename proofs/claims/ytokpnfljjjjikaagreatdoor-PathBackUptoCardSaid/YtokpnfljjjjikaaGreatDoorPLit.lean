/- The words of a literal: what path.Literal tells, over lists; small letters change nothing; no bracket stands in them; they are short. -/
import Derived.Test.YtokpnfljjjjikaaGreatDoorPBox
namespace Go.Proofs.YtokpnfljjjjikaaGreatDoor.PathL
open Go.RowKit Go.Proofs.YtokpnfljjjjikaaGreatDoor Go.Proofs.YtokpnfljjjjikaaGreatDoor.QPath Go.Proofs.YtokpnfljjjjikaaGreatDoorW.PrintWords Go.Proofs.YtokpnfljjjjikaaGreatDoorW.PrintMore
set_option linter.unusedVariables false
set_option linter.unusedSimpArgs false

theorem litIdx_is {g : ByteArray → Bool} {xs : List ByteArray} (hf : ∀ y, y ∈ xs → path_Literal_1.f y = some (g y)) : ∀ (k i : Nat), xs.length - i < k → i ≤ xs.length → xs.length < 4611686018427387904 →
    ∃ r, slices_IndexFunc_string_string_at_path_Literal_1.l0 k xs (xs.length : Int) (i : Int) = some r ∧ decide (r ≥ 0) = (xs.drop i).any g
  | 0, _, h, _, _ => absurd h (Nat.not_lt_zero _)
  | k + 1, i, h, hi, hl => by
    unfold slices_IndexFunc_string_string_at_path_Literal_1.l0
    by_cases hlt : i < xs.length
    · rw [if_pos (by omega), if_pos (by omega), if_pos (by omega)]
      have hrd : rdOf ByteArray.empty xs (i : Int) = xs[i] := by simp [rdOf, hlt]
      have hd : xs.drop i = xs[i] :: xs.drop (i + 1) := List.drop_eq_getElem_cons hlt
      rw [hrd, hf xs[i] (List.getElem_mem hlt), hd, List.any_cons]
      simp only [Option.bind_some]
      cases hg : g xs[i] with
      | true => exact ⟨_, if_pos rfl, by simp⟩
      | false =>
        rw [if_neg (by decide), wrapS i (by omega)]
        obtain ⟨r, h1, h2⟩ := litIdx_is hf k (i + 1) (by omega) (by omega) hl
        exact ⟨r, h1, by rw [h2]; rfl⟩
    · rw [if_neg (by omega), List.drop_of_length_le (by omega)]
      exact ⟨_, rfl, rfl⟩
theorem litAny {g : ByteArray → Bool} {xs : List ByteArray} (hf : ∀ y, y ∈ xs → path_Literal_1.f y = some (g y)) (k : Nat) (hk : xs.length < k) (hl : xs.length < 4611686018427387904) : slices_ContainsFunc_string_string_at_path_Literal_1.f k xs = some (xs.any g) := by
  obtain ⟨r, h1, h2⟩ := litIdx_is hf k 0 (by omega) (Nat.zero_le _) hl
  unfold slices_ContainsFunc_string_string_at_path_Literal_1.f slices_IndexFunc_string_string_at_path_Literal_1.f
  rw [show (0 : Int) = ((0 : Nat) : Int) from rfl, h1]
  simp only [Option.bind_some]
  rw [show decide (r ≥ ((0 : Nat) : Int)) = decide (r ≥ 0) from rfl, h2, List.drop_zero]
def badFour (l : List UInt8) : Bool := (pu 10 255 (mkText l)).isNone || decide (3 < l.length)
def grpL (l : List UInt8) : Int := if l.length = 0 then 0 else if (pieces 58 l).any (fun p => groupBad (mkText p)) then -1 else ((pieces 58 l).length : Int)
def sixL (l : List UInt8) : Bool :=
  if (Lib.cut l [58, 58]).2.2 = true then (decide (0 ≤ grpL (Lib.cut l [58, 58]).1) && (decide (0 ≤ grpL (Lib.cut l [58, 58]).2.1) && decide (grpL (Lib.cut l [58, 58]).1 + grpL (Lib.cut l [58, 58]).2.1 ≤ 6)))
  else grpL (Lib.cut l [58, 58]).1 == 8
def fourL (l : List UInt8) : Bool := decide ((pieces 46 l).length = 4) && !((pieces 46 l).any badFour)
def isSixL (l : List UInt8) : Bool := decide (5 < l.length) && ((l.take 5).map lowB == [105, 112, 118, 54, 58])
def litL (l : List UInt8) : Bool := if isSixL l = true then sixL (l.drop 5) else fourL l
theorem groups_mk (l : List UInt8) (hl : l.length < 4294967281) : path_groups.f (mkText l) = some (grpL l) := by
  unfold path_groups.f grpL
  rw [if_pos (by exact hl)]
  congr 1
  rw [mkText_size]
  by_cases h0 : l.length = 0
  · rw [if_pos h0, if_pos h0]
  · rw [if_neg h0, if_neg h0]
    rw [List.any_map]
    rfl
theorem pieces_len (c : UInt8) (l : List UInt8) : (pieces c l).length ≤ l.length + 1 := by
  rw [pieces_length]
  have := List.count_le_length (a := c) (l := l)
  omega
theorem grpL_bounds (l : List UInt8) : -1 ≤ grpL l ∧ grpL l ≤ l.length + 1 := by
  have h := pieces_len 58 l
  unfold grpL
  split
  · omega
  · split
    · omega
    · omega
theorem cut_len (l : List UInt8) : (Lib.cut l [58, 58]).1.length ≤ l.length ∧ (Lib.cut l [58, 58]).2.1.length ≤ l.length := by
  unfold Lib.cut
  split
  · refine ⟨?_, ?_⟩
    · rw [List.length_take]; omega
    · rw [List.length_drop]; omega
  · exact ⟨Nat.le_refl _, Nat.zero_le _⟩
theorem six_mk (l : List UInt8) (hl : l.length < 4294967281) : path_six.f (mkText l) = some (sixL l) := by
  obtain ⟨h1, h2⟩ := cut_len l
  have g1 := grpL_bounds (Lib.cut l [58, 58]).1
  have g2 := grpL_bounds (Lib.cut l [58, 58]).2.1
  unfold path_six.f strings_Cut.f
  rw [if_pos (by exact hl)]
  simp only [Option.bind_some]
  show ((path_groups.f (mkText (Lib.cut l [58, 58]).1)).bind fun t151 => ((path_groups.f (mkText (Lib.cut l [58, 58]).2.1)).bind fun t152 => _)) = some (sixL l)
  rw [groups_mk _ (by omega), groups_mk _ (by omega)]
  simp only [Option.bind_some]
  show (if (Lib.cut l [58, 58]).2.2 = true then _ else _) = _
  unfold sixL
  by_cases hg : (Lib.cut l [58, 58]).2.2 = true
  · rw [if_pos hg, if_pos hg]
    by_cases ha : 0 ≤ grpL (Lib.cut l [58, 58]).1
    · rw [if_pos (by omega), decide_eq_true ha, Bool.true_and]
      by_cases hb : 0 ≤ grpL (Lib.cut l [58, 58]).2.1
      · rw [if_pos (by omega), decide_eq_true hb, Bool.true_and]
        have e : wrap64 (grpL (Lib.cut l [58, 58]).1 + grpL (Lib.cut l [58, 58]).2.1) = grpL (Lib.cut l [58, 58]).1 + grpL (Lib.cut l [58, 58]).2.1 := by unfold wrap64; omega
        rw [e]
      · rw [if_neg (by omega), decide_eq_false hb, Bool.false_and]
    · rw [if_neg (by omega), decide_eq_false ha, Bool.false_and]
  · rw [if_neg hg, if_neg hg]
theorem four1_mk (l : List UInt8) (hl : l.length < 4294967281) : path_Literal_1.f (mkText l) = some (badFour l) := by
  unfold path_Literal_1.f badFour
  rw [if_pos (by rw [mkText_size]; omega)]
  rfl
theorem piece_le (c : UInt8) (l x : List UInt8) (h : x ∈ pieces c l) : x.length ≤ l.length := piece_length c l x h
theorem Literal_mk (l : List UInt8) (hl : l.length < 4294967281) (k : Nat) (hk : l.length + 4 < k) : path_Literal.f k (mkText l) = some (litL l) := by
  obtain ⟨k, rfl⟩ : ∃ k', k = k' + 1 := ⟨k - 1, by omega⟩
  have hfour : path_Literal.j0 (k + 1) (mkText l) false = some (fourL l) := by
    rw [path_Literal.j0, if_neg (by decide), split_some _ 46 (by rw [mkText_size]; exact hl)]
    simp only [Option.bind_some]
    show (if (((pieces 46 l).map mkText).length : Int) = 4 then _ else _) = _
    unfold fourL
    have hp := pieces_len 46 l
    by_cases h4 : (pieces 46 l).length = 4
    · rw [if_pos (by rw [List.length_map]; omega), decide_eq_true h4, Bool.true_and]
      have ha := litAny (g := fun y => badFour y.data.toList) (xs := (pieces 46 l).map mkText) (fun y hy => by
        obtain ⟨p, hp, rfl⟩ := List.mem_map.mp hy
        have := piece_le 46 l p hp
        exact four1_mk p (by omega)) k (by rw [List.length_map]; omega) (by rw [List.length_map]; omega)
      show ((slices_ContainsFunc_string_string_at_path_Literal_1.f k ((pieces 46 l).map mkText)).bind _) = _
      rw [ha]
      simp only [Option.bind_some]
      rw [List.any_map]
      rfl
    · rw [if_neg (by rw [List.length_map]; omega), decide_eq_false h4, Bool.false_and]
  unfold path_Literal.f litL
  rw [mkText_size]
  by_cases h5 : 5 < l.length
  · rw [if_pos (by omega), if_pos (by decide), if_pos (by omega)]
    have e1 : (mkText l).extract 0 5 = mkText (l.take 5) := by
      have := extract_rest (mkText l) 0 5 (by omega)
      exact this
    have hf : path_small.f (mkText (l.take 5)) = some (mkText ((l.take 5).map lowB)) := by
      unfold path_small.f
      rw [if_pos (by rw [mkText_size, List.length_take]; omega), small_mk]
    rw [e1, hf]
    simp only [Option.bind_some]
    rw [show (mkText ((l.take 5).map lowB)).toList = (l.take 5).map lowB from ByteArray.toList_eq ..]
    have hi : isSixL l = ((l.take 5).map lowB == [105, 112, 118, 54, 58]) := by unfold isSixL; rw [decide_eq_true h5, Bool.true_and]
    rw [← hi]
    cases hs : isSixL l with
    | true =>
      rw [if_pos rfl, path_Literal.j0, if_pos rfl, if_pos (by rw [mkText_size]; omega)]
      have e2 : (mkText l).extract 5 (mkText l).size = mkText (l.drop 5) := by
        rw [extract_rest (mkText l) 5 (mkText l).size (by rw [mkText_size]; omega), mkText_size]
        congr 1
        show (l.drop 5).take (l.length - 5) = l.drop 5
        exact List.take_of_length_le (by rw [List.length_drop]; omega)
      rw [e2, six_mk _ (by rw [List.length_drop]; omega)]
      rfl
    | false =>
      rw [if_neg (by decide)]
      exact hfour
  · rw [if_neg (by omega), hfour, if_neg (by unfold isSixL; rw [decide_eq_false h5]; simp)]
theorem litB_mk (l : List UInt8) (hl : l.length < 4294967281) : litB (mkText l) = litL l := by
  unfold litB
  rw [Literal_mk l hl _ (by rw [mkText_size]; omega)]
  rfl

theorem bytes_mk (l : List UInt8) : bytesOf (mkText l) = l.map fun b => (b.toNat : Int) := rfl
theorem pieces_mem (c : UInt8) : ∀ (l : List UInt8) (b : UInt8), b ∈ l → b = c ∨ ∃ p, p ∈ pieces c l ∧ b ∈ p
  | [], _, h => by cases h
  | d :: l, b, h => by
    unfold pieces
    by_cases hd : (d == c) = true
    · rw [if_pos hd]
      rcases List.mem_cons.mp h with rfl | h
      · exact .inl (by simpa using hd)
      · rcases pieces_mem c l b h with h1 | ⟨p, hp, hb⟩
        · exact .inl h1
        · exact .inr ⟨p, List.mem_cons_of_mem _ hp, hb⟩
    · rw [if_neg hd]
      have ih := pieces_mem c l b
      cases hq : pieces c l with
      | nil => exact absurd hq (pieces_ne c l)
      | cons p ps =>
        rw [hq] at ih
        rcases List.mem_cons.mp h with rfl | h
        · exact .inr ⟨_, List.mem_cons_self .., List.mem_cons_self ..⟩
        · rcases ih h with h1 | ⟨p', hp, hb⟩
          · exact .inl h1
          · rcases List.mem_cons.mp hp with rfl | hp
            · exact .inr ⟨_, List.mem_cons_self .., List.mem_cons_of_mem _ hb⟩
            · exact .inr ⟨p', List.mem_cons_of_mem _ hp, hb⟩
theorem pieces_sum (c : UInt8) : ∀ l : List UInt8, ((pieces c l).map fun p => p.length + 1).sum = l.length + 1
  | [] => rfl
  | d :: l => by
    have ih := pieces_sum c l
    unfold pieces
    by_cases hd : (d == c) = true
    · rw [if_pos hd, List.map_cons, List.sum_cons, ih, List.length_cons, List.length_nil]
      omega
    · rw [if_neg hd]
      cases hq : pieces c l with
      | nil => exact absurd hq (pieces_ne c l)
      | cons p ps =>
        rw [hq, List.map_cons, List.sum_cons] at ih
        simp only [List.map_cons, List.sum_cons, List.length_cons]
        omega
theorem sum_le (m : Nat) : ∀ L : List (List UInt8), (∀ p, p ∈ L → p.length ≤ m) → (L.map fun p => p.length + 1).sum ≤ L.length * (m + 1)
  | [], _ => Nat.zero_le _
  | p :: L, h => by
    have ih := sum_le m L (fun q hq => h q (List.mem_cons_of_mem _ hq))
    have h1 := h p (List.mem_cons_self ..)
    rw [List.map_cons, List.sum_cons, List.length_cons, Nat.add_mul]
    omega
theorem pieces_total (c : UInt8) (m : Nat) (l : List UInt8) (h : ∀ p, p ∈ pieces c l → p.length ≤ m) : l.length + 1 ≤ (pieces c l).length * (m + 1) := by
  rw [← pieces_sum c l]
  exact sum_le m _ h
theorem puGo_dig (base most : Int) : ∀ (l : List Int) (n r : Int), puGo base most l n = some r → ∀ c, c ∈ l → digI c < base
  | [], _, _, _ => fun c h => by cases h
  | d :: l, n, r, h => by
    intro c hc
    unfold puGo at h
    split at h
    · cases h
    · rename_i h1
      split at h
      · cases h
      · rcases List.mem_cons.mp hc with rfl | hc
        · omega
        · exact puGo_dig base most l _ r h c hc
theorem pu_dig (base most : Int) (l : List UInt8) (h : (pu base most (mkText l)).isNone = false) (b : UInt8) (hb : b ∈ l) : digI (b.toNat : Int) < base := by
  unfold pu at h
  split at h
  · cases h
  · cases hr : puGo base most (bytesOf (mkText l)) 0 with
    | none => rw [hr] at h; cases h
    | some r => exact puGo_dig base most _ 0 r hr _ (List.mem_map_of_mem hb)
theorem dig_word (b : UInt8) : digI (b.toNat : Int) < 16 → wordB b = true := forall_byte (Q := fun b => digI (b.toNat : Int) < 16 → wordB b = true) (by decide +kernel) b
theorem grp_good (l : List UInt8) (h : 0 ≤ grpL l) : (∀ b, b ∈ l → wordB b = true) ∧ (l.length : Int) ≤ 5 * grpL l := by
  unfold grpL at h ⊢
  by_cases h0 : l.length = 0
  · rw [if_pos h0]
    have : l = [] := List.eq_nil_of_length_eq_zero h0
    subst this
    exact ⟨fun b hb => (by cases hb), by simp⟩
  · rw [if_neg h0] at h ⊢
    by_cases ha : ((pieces 58 l).any fun p => groupBad (mkText p)) = true
    · rw [if_pos ha] at h
      omega
    · rw [if_neg ha]
      have hg : ∀ p, p ∈ pieces 58 l → groupBad (mkText p) = false := fun p hp => by
        cases hb : groupBad (mkText p) with
        | false => rfl
        | true => exact absurd (List.any_eq_true.mpr ⟨p, hp, hb⟩) ha
      refine ⟨fun b hb => ?_, ?_⟩
      · rcases pieces_mem 58 l b hb with rfl | ⟨p, hp, hb⟩
        · decide
        · have h1 := hg p hp
          unfold groupBad at h1
          rw [Bool.or_eq_false_iff] at h1
          exact dig_word b (pu_dig 16 65535 p h1.1 b hb)
      · have h2 := pieces_total 58 4 l (fun p hp => by
          have h1 := hg p hp
          unfold groupBad at h1
          rw [Bool.or_eq_false_iff, mkText_size] at h1
          have := of_decide_eq_false h1.2
          omega)
        omega
theorem index_split : ∀ l : List UInt8, 0 ≤ Lib.index l [58, 58] → l = l.take (Lib.index l [58, 58]).toNat ++ 58 :: 58 :: l.drop ((Lib.index l [58, 58]).toNat + 2)
  | [], h => by simp [Lib.index] at h
  | b :: l, h => by
    unfold Lib.index at h ⊢
    by_cases hp : List.isPrefixOf [58, 58] (b :: l) = true
    · rw [if_pos hp]
      cases l with
      | nil => simp [List.isPrefixOf] at hp
      | cons c l =>
        simp [List.isPrefixOf] at hp
        obtain ⟨rfl, rfl⟩ := hp
        rfl
    · rw [if_neg hp] at h ⊢
      by_cases h1 : (Lib.index l [58, 58] == -1) = true
      · rw [if_pos h1] at h
        omega
      · rw [if_neg h1] at h ⊢
        have h2 : 0 ≤ Lib.index l [58, 58] := by
          have : ¬ Lib.index l [58, 58] = -1 := by simpa using h1
          omega
        have ih := index_split l h2
        obtain ⟨n, hn⟩ : ∃ n : Nat, Lib.index l [58, 58] = n := ⟨_, (Int.toNat_of_nonneg h2).symm⟩
        rw [hn] at ih ⊢
        rw [show ((n : Int) + 1).toNat = n + 1 from by omega]
        rw [Int.toNat_natCast] at ih
        rw [List.take_succ_cons, List.cons_append, show n + 1 + 2 = (n + 2) + 1 from by omega, List.drop_succ_cons, ← ih]
theorem six_good (l : List UInt8) (h : sixL l = true) : (∀ b, b ∈ l → wordB b = true) ∧ l.length ≤ 100 := by
  unfold sixL at h
  unfold Lib.cut at h
  by_cases hi : 0 ≤ Lib.index l [58, 58]
  · simp only [if_pos hi, if_true, Bool.and_eq_true, decide_eq_true_eq] at h
    obtain ⟨h1, h2, h3⟩ := h
    obtain ⟨w1, n1⟩ := grp_good _ h1
    obtain ⟨w2, n2⟩ := grp_good _ h2
    have e := index_split l hi
    have e2 : (Lib.index l [58, 58]).toNat + [58, 58].length = (Lib.index l [58, 58]).toNat + 2 := rfl
    rw [show ([58, 58] : List UInt8).length = 2 from rfl] at w2 n2 h3
    refine ⟨fun b hb => ?_, ?_⟩
    · rw [e] at hb
      rcases List.mem_append.mp hb with hb | hb
      · exact w1 b hb
      · rcases List.mem_cons.mp hb with rfl | hb
        · decide
        · rcases List.mem_cons.mp hb with rfl | hb
          · decide
          · exact w2 b hb
    · rw [e, List.length_append, List.length_cons, List.length_cons]
      omega
  · simp only [if_neg hi, Bool.false_eq_true, if_false, beq_iff_eq] at h
    obtain ⟨w1, n1⟩ := grp_good l (by omega)
    exact ⟨w1, by omega⟩
theorem four_good (l : List UInt8) (h : fourL l = true) : (∀ b, b ∈ l → wordB b = true) ∧ l.length ≤ 100 := by
  unfold fourL at h
  simp only [Bool.and_eq_true, decide_eq_true_eq, Bool.not_eq_true'] at h
  obtain ⟨h1, h2⟩ := h
  have hg : ∀ p, p ∈ pieces 46 l → badFour p = false := fun p hp => by
    cases hb : badFour p with
    | false => rfl
    | true => rw [List.any_eq_true.mpr ⟨p, hp, hb⟩] at h2; cases h2
  refine ⟨fun b hb => ?_, ?_⟩
  · rcases pieces_mem 46 l b hb with rfl | ⟨p, hp, hb⟩
    · decide
    · have h3 := hg p hp
      unfold badFour at h3
      rw [Bool.or_eq_false_iff] at h3
      have := pu_dig 10 255 p h3.1 b hb
      exact dig_word b (by omega)
  · have h4 := pieces_total 46 3 l (fun p hp => by
      have h3 := hg p hp
      unfold badFour at h3
      rw [Bool.or_eq_false_iff] at h3
      have := of_decide_eq_false h3.2
      omega)
    rw [h1] at h4
    omega
theorem low_word (b : UInt8) : lowB b ∈ ([105, 112, 118, 54, 58] : List UInt8) → wordB b = true := forall_byte (Q := fun b => lowB b ∈ ([105, 112, 118, 54, 58] : List UInt8) → wordB b = true) (by decide +kernel) b
theorem lit_good (l : List UInt8) (h : litL l = true) : (∀ b, b ∈ l → wordB b = true) ∧ l.length ≤ 255 := by
  unfold litL at h
  by_cases hs : isSixL l = true
  · rw [if_pos hs] at h
    obtain ⟨w, n⟩ := six_good _ h
    unfold isSixL at hs
    simp only [Bool.and_eq_true, beq_iff_eq] at hs
    refine ⟨fun b hb => ?_, by rw [List.length_drop] at n; omega⟩
    have e : l = l.take 5 ++ l.drop 5 := (List.take_append_drop 5 l).symm
    rw [e] at hb
    rcases List.mem_append.mp hb with hb | hb
    · exact low_word b (by rw [← hs.2]; exact List.mem_map_of_mem hb)
    · exact w b hb
  · rw [if_neg hs] at h
    obtain ⟨w, n⟩ := four_good _ h
    exact ⟨w, by omega⟩
end Go.Proofs.YtokpnfljjjjikaaGreatDoor.PathL
